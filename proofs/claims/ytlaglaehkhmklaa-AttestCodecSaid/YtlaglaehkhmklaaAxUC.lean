/-
  Own text: what the statements on quotes call besides.
-/
import Derived.Test.YtlaglaehkhmklaaAxUB
namespace Go.Ax
def sameQ (a b : Att) : Bool := decide (a.key = b.key) && (decide (a.nonce = b.nonce) && (decide (a.resets = b.resets) && (decide (a.restarts = b.restarts) && (decide (a.clock = b.clock) && ((a.safe == b.safe) && (decide (a.updates = b.updates) && ((decide (a.s0 = b.s0) && decide (a.s1 = b.s1)) && decide (a.digest = b.digest))))))))
theorem sameQ_refl (a : Att) : sameQ a a = true := by simp [sameQ]
def validA (a : Att) : Att := { key := seedB a.key, nonce := a.nonce.take 128, digest := seedB a.digest, resets := a.resets % 4611686018427387904, restarts := a.restarts % 4611686018427387904, clock := a.clock % 4611686018427387904, safe := a.safe, updates := a.updates % 4611686018427387904, s0 := a.s0 % 65536, s1 := a.s1 % 65536 }
theorem validA_ok (a : Att) : OkA (validA a) := by
  refine ⟨seedB_len _, by simp only [validA, List.length_take]; omega, ?_, ?_, ?_, ?_, ?_, ?_, seedB_len _⟩
  all_goals simp only [validA]; omega
def fewA (a : Att) : Bool := decide ((a.key.length : Int) ≤ 60) && (decide ((a.nonce.length : Int) ≤ 200) && decide ((a.digest.length : Int) ≤ 60))
theorem fewA_t {a : Att} (h : fewA a = true) : a.key.length ≤ 60 ∧ a.nonce.length ≤ 200 ∧ a.digest.length ≤ 60 := by
  simp only [fewA, Bool.and_eq_true, decide_eq_true_eq] at h; omega
theorem fewA_f {a : Att} (h : 60 < a.key.length ∨ 200 < a.nonce.length ∨ 60 < a.digest.length) : fewA a = false := by
  cases hf : fewA a with
  | false => rfl
  | true => have := fewA_t hf; omega
end Go.Ax
namespace Go.Proofs.Ytlaglaehkhmklaa
open Go Go.Ax
set_option linter.unusedVariables false
set_option linter.unusedSimpArgs false
attribute [local irreducible] iadd isub imul iquo irem ibit ineg ieq ine ilt ile ishl ishr beq' bnot and' seq' u8op u32op u64op u8shr u8shl u64shr u64shl u32shr u32shl i64w u8i u64i iu8 iu32 iu64 u8u64 u64u8 u32u8 u64cmp u8cmp u32cmp llen lget linb lset lcut lrep lapp lcpy lemp fits fitn sealed drawChk
set_option maxHeartbeats 4000000
set_option maxRecDepth 100000
theorem ev_r16_same (a b : Att) (h1 : a.key.length ≤ 100000) (h2 : a.nonce.length ≤ 100000) (h3 : a.digest.length ≤ 100000) : Y E0 (.call 12 [.agg (attX a), .agg (attX b)] []) = some (.ret (.b (sameQ a b)) []) := by
  obtain ⟨key, nonce, resets, restarts, clock, safe, updates, s0, s1, digest⟩ := a
  obtain ⟨key', nonce', resets', restarts', clock', safe', updates', s0', s1', digest'⟩ := b
  simp only at h1 h2 h3
  dsimp only [attX]
  rw [Y_go]; conv => lhs; whnf
  rw [toReq_call]
  rw [ev_same _ _ (by omega)]
  conv => lhs; whnf
  rcases Bool.eq_false_or_eq_true (decide (key = key')) with hc0 | hc0
  · rw [hc0]; replace hc0 := of_decide_eq_true hc0; try simp only at hc0
    conv => lhs; whnf
    rw [toReq_call]
    rw [ev_same _ _ (by omega)]
    conv => lhs; whnf
    rcases Bool.eq_false_or_eq_true (decide (nonce = nonce')) with hc1 | hc1
    · rw [hc1]; replace hc1 := of_decide_eq_true hc1; try simp only at hc1
      conv => lhs; whnf
      rcases Bool.eq_false_or_eq_true (ieq resets resets') with hc2 | hc2
      · rw [hc2]; replace hc2 := of_ieq_t hc2; try simp only [llen_eq] at hc2
        subst hc2
        conv => lhs; whnf
        rcases Bool.eq_false_or_eq_true (ieq restarts restarts') with hc3 | hc3
        · rw [hc3]; replace hc3 := of_ieq_t hc3; try simp only [llen_eq] at hc3
          subst hc3
          conv => lhs; whnf
          rw [Y_go]; conv => lhs; whnf
          rcases Bool.eq_false_or_eq_true (ieq clock clock') with hc4 | hc4
          · rw [hc4]; replace hc4 := of_ieq_t hc4; try simp only [llen_eq] at hc4
            subst hc4
            conv => lhs; whnf
            rcases Bool.eq_false_or_eq_true (beq' safe safe') with hc5 | hc5
            · rw [hc5]; replace hc5 := of_beq_t hc5; try simp only [llen_eq] at hc5
              conv => lhs; whnf
              rcases Bool.eq_false_or_eq_true (ieq updates updates') with hc6 | hc6
              · rw [hc6]; replace hc6 := of_ieq_t hc6; try simp only [llen_eq] at hc6
                subst hc6
                conv => lhs; whnf
                rw [Y_go]; conv => lhs; whnf
                rw [and_eq]; conv => lhs; whnf
                rcases Bool.eq_false_or_eq_true (ieq s0 s0') with hc7 | hc7
                · rw [hc7]; replace hc7 := of_ieq_t hc7; try simp only [llen_eq] at hc7
                  subst hc7
                  conv => lhs; whnf
                  rcases Bool.eq_false_or_eq_true (ieq s1 s1') with hc8 | hc8
                  · rw [hc8]; replace hc8 := of_ieq_t hc8; try simp only [llen_eq] at hc8
                    subst hc8
                    conv => lhs; whnf
                    rw [toReq_call]
                    rw [ev_same _ _ (by omega)]
                    conv => lhs; whnf
                    simp_all [sameQ, ieq_eq, beq_eq]
                  · rw [hc8]; replace hc8 := of_ieq_f hc8; try simp only [llen_eq] at hc8
                    conv => lhs; whnf
                    simp_all [sameQ, ieq_eq, beq_eq]
                · rw [hc7]; replace hc7 := of_ieq_f hc7; try simp only [llen_eq] at hc7
                  conv => lhs; whnf
                  simp_all [sameQ, ieq_eq, beq_eq]
              · rw [hc6]; replace hc6 := of_ieq_f hc6; try simp only [llen_eq] at hc6
                conv => lhs; whnf
                rw [Y_go]; conv => lhs; whnf
                simp_all [sameQ, ieq_eq, beq_eq]
            · rw [hc5]; replace hc5 := of_beq_f hc5; try simp only [llen_eq] at hc5
              conv => lhs; whnf
              simp_all [sameQ, ieq_eq, beq_eq]
          · rw [hc4]; replace hc4 := of_ieq_f hc4; try simp only [llen_eq] at hc4
            conv => lhs; whnf
            simp_all [sameQ, ieq_eq, beq_eq]
        · rw [hc3]; replace hc3 := of_ieq_f hc3; try simp only [llen_eq] at hc3
          conv => lhs; whnf
          rw [Y_go]; conv => lhs; whnf
          simp_all [sameQ, ieq_eq, beq_eq]
      · rw [hc2]; replace hc2 := of_ieq_f hc2; try simp only [llen_eq] at hc2
        conv => lhs; whnf
        rw [Y_go]; conv => lhs; whnf
        simp_all [sameQ, ieq_eq, beq_eq]
    · rw [hc1]; replace hc1 := of_decide_eq_false hc1; try simp only at hc1
      conv => lhs; whnf
      rw [Y_go]; conv => lhs; whnf
      simp_all [sameQ, ieq_eq, beq_eq]
  · rw [hc0]; replace hc0 := of_decide_eq_false hc0; try simp only at hc0
    conv => lhs; whnf
    rw [Y_go]; conv => lhs; whnf
    simp_all [sameQ, ieq_eq, beq_eq]
theorem ev_few (a : Att) : Y E0 (.call 6 [.agg (attX a)] []) = some (.ret (.b (fewA a)) []) := by
  rw [Y_go]; conv => lhs; whnf
  rcases Bool.eq_false_or_eq_true (ile (llen a.key) 60) with hc0 | hc0
  · rw [hc0]; replace hc0 := of_ile_t hc0; try simp only [llen_eq] at hc0
    conv => lhs; whnf
    rcases Bool.eq_false_or_eq_true (ile (llen a.nonce) 200) with hc1 | hc1
    · rw [hc1]; replace hc1 := of_ile_t hc1; try simp only [llen_eq] at hc1
      conv => lhs; whnf
      simp_all [fewA, ile_eq, llen_eq]; done
    · rw [hc1]; replace hc1 := of_ile_f hc1; try simp only [llen_eq] at hc1
      conv => lhs; whnf
      rw [fewA_f (by omega)]
  · rw [hc0]; replace hc0 := of_ile_f hc0; try simp only [llen_eq] at hc0
    conv => lhs; whnf
    rw [fewA_f (by omega)]
theorem ev_valid (a : Att) : Y E0 (.call 7 [.agg (attX a)] []) = some (.ret (.agg (attX (validA a))) []) := by
  rw [Y_go]; conv => lhs; whnf
  rw [toReq_call]
  rw [ev_seed _]
  conv => lhs; whnf
  rw [toReq_call]
  rw [ev_cut _ _ (by omega)]
  conv => lhs; whnf
  rw [toReq_call]
  rw [ev_seed _]
  conv => lhs; whnf
  rw [drw (by kernel_rfl)]; conv => lhs; whnf
  rw [drw (by kernel_rfl)]; conv => lhs; whnf
  rw [ile_t (by omega)]
  conv => lhs; whnf
  rw [ilt_t (by omega)]
  conv => lhs; whnf
  rw [ile_t (by omega)]
  conv => lhs; whnf
  rw [ilt_t (by omega)]
  conv => lhs; whnf
  (simp only [iand_62, iand_65535]; rfl)
end Go.Proofs.Ytlaglaehkhmklaa
