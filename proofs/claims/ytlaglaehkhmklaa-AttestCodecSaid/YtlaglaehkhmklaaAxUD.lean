/-
  Own text: the two statements on the byte form of quotes, walked.
-/
import Derived.Test.YtlaglaehkhmklaaAxUC
namespace Go.Ax
theorem decA_len (b : List UInt8) : (decA b).1.key.length ≤ b.length ∧ (decA b).1.nonce.length ≤ b.length ∧ (decA b).1.digest.length ≤ b.length := by
  unfold decA
  dsimp only
  split
  · simp [att0]
  split
  · simp [att0]
  split
  · simp [att0]
  split
  · simp [att0]
  exact ⟨rdB_len, rdB_len, rdR_len⟩
def attW : Att := ⟨List.replicate 32 0, [], 0, 0, 5, false, 0, 0, 0, List.replicate 32 0⟩
theorem lenW : (encA attW).length = 109 := by decide +kernel
theorem decW : decA (encA attW) = (attW, 0) := dec_enc ⟨rfl, by decide, by decide, by decide, by decide, by decide, by decide, by decide, rfl⟩
theorem decT : decA [UInt8.ofNat 83, UInt8.ofNat 87, UInt8.ofNat 81, UInt8.ofNat 50] = (att0, 5) := by
  rw [show ([UInt8.ofNat 83, UInt8.ofNat 87, UInt8.ofNat 81, UInt8.ofNat 50] : List UInt8) = [83, 87, 81, 50] from rfl]
  exact decA_m (v0 := [83, 87, 81, 50]) (p0 := 4) rfl (by decide)
end Go.Ax
namespace Go.Proofs.Ytlaglaehkhmklaa
open Go Go.Ax
set_option linter.unusedVariables false
set_option linter.unusedSimpArgs false
attribute [local irreducible] iadd isub imul iquo irem ibit ineg ieq ine ilt ile ishl ishr beq' bnot and' seq' u8op u32op u64op u8shr u8shl u64shr u64shl u32shr u32shl i64w u8i u64i iu8 iu32 iu64 u8u64 u64u8 u32u8 u64cmp u8cmp u32cmp llen lget linb lset lcut lrep lapp lcpy lemp fits fitn sealed drawChk
set_option maxHeartbeats 4000000
set_option maxRecDepth 100000
theorem ev_awake : Y E0 (.call 5 [] []) = some (.ret (.b true) []) := by
  have henc := ev_att_encode attW (by decide) (by decide) (by decide)
  have hr : lrep 32 (0 : UInt8) = List.replicate 32 0 := by rw [lrep_eq]; rfl
  have hl := lenW
  dsimp only [attX, attW] at henc
  rw [Y_go]; conv => lhs; whnf
  rw [hr]; conv => lhs; whnf
  rw [fitn_t (by omega)]
  conv => lhs; whnf
  rw [ieq_t (by omega)]
  conv => lhs; whnf
  rw [hr]; conv => lhs; whnf
  rw [fitn_t (by omega)]
  conv => lhs; whnf
  rw [ieq_t (by omega)]
  conv => lhs; whnf
  rw [toReq_call]
  rw [henc]
  conv => lhs; whnf
  rw [drw (by kernel_rfl)]; conv => lhs; whnf
  rw [toReq_call]
  rw [ev_att_decode _ (by rw [show (encA ⟨List.replicate 32 0, [], 0, 0, 5, false, 0, 0, 0, List.replicate 32 0⟩).length = 109 from lenW]; decide), show decA (encA ⟨List.replicate 32 0, [], 0, 0, 5, false, 0, 0, 0, List.replicate 32 0⟩) = (attW, 0) from decW]
  conv => lhs; whnf
  rw [toReq_call]
  rw [ev_att_decode _ (by decide), decT]
  conv => lhs; whnf
  rw [ieq_t (by rw [llen_eq]; exact congrArg (fun n : Nat => (n : Int)) lenW)]; conv => lhs; whnf
  rw [ieq_t (by omega)]
  conv => lhs; whnf
  rw [ieq_t (by decide)]
  conv => lhs; whnf
  rw [ieq_t rfl]
theorem ev_codec (a : Att) : Y E0 (.call 3 [.agg (attX a)] []) = some (.ret (.b true) []) := by
  have hd := dec_enc (validA_ok a)
  have hk := (validA_ok a).key
  have hn := (validA_ok a).nonce
  have hg := (validA_ok a).digest
  have hl := encA_le (validA a) (by omega) (by omega) (by omega)
  cases hf : fewA a
  · rw [Y_go]; conv => lhs; whnf
    rw [toReq_call]
    rw [ev_awake]
    conv => lhs; whnf
    rw [bnot_eq]; conv => lhs; whnf
    rw [toReq_call]
    rw [ev_few _]
    conv => lhs; whnf
    rw [hf]; conv => lhs; whnf
    rw [bnot_eq]; conv => lhs; whnf
  · rw [Y_go]; conv => lhs; whnf
    rw [toReq_call]
    rw [ev_awake]
    conv => lhs; whnf
    rw [bnot_eq]; conv => lhs; whnf
    rw [toReq_call]
    rw [ev_few _]
    conv => lhs; whnf
    rw [hf]; conv => lhs; whnf
    rw [bnot_eq]; conv => lhs; whnf
    rw [toReq_call]
    rw [ev_valid _]
    conv => lhs; whnf
    rw [toReq_call]
    rw [ev_att_encode _ (by omega) (by omega) (by omega)]
    conv => lhs; whnf
    rw [toReq_call]
    rw [ev_att_decode _ (by omega), hd]
    conv => lhs; whnf
    rw [toReq_call]
    rw [ev_r16_encode _ (by omega) (by omega) (by omega)]
    conv => lhs; whnf
    rw [toReq_call]
    rw [ev_same _ _ (by omega)]
    conv => lhs; whnf
    rw [decide_eq_true rfl]; conv => lhs; whnf
    rw [ieq_t (by omega)]
    conv => lhs; whnf
    rw [toReq_call]
    rw [ev_r16_same _ _ (by omega) (by omega) (by omega), sameQ_refl]
    conv => lhs; whnf
end Go.Proofs.Ytlaglaehkhmklaa
