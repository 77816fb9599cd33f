/- Claims by id. The program's answers are the reference's. No condition but the length. -/
import Derived.Test.YtcdffihcfeajfaaGreatPyClm
namespace Go.Proofs.YtcdffihcfeajfaaGreat
open Go
set_option linter.unusedVariables false
set_option linter.unusedSimpArgs false
/-- Claims by id. -/
def claimIx (l : List Claim) (id : Int) : Int := match l.findIdx? (fun x => decide (x.Id = id)) with | some i => (i : Int) | none => -1
theorem findClaimI (l : List Claim) (id : Int) (hl : l.length ≤ 1048576) : impl_FindClaim l id = some (claimIx l id) := by
  have hi := run_find l (fun x => decide (x.Id = id)) (fun i => (i : Int)) (step := slices_IndexFunc_Claim_cimpl_FindClaim_1_l2 l id (ln l))
    (fun i hi => by
      simp only [slices_IndexFunc_Claim_cimpl_FindClaim_1_l2, impl_FindClaim_1, Option.bind_some, lt_ln hi, inb_n hi, gt_n hi, w64_n (show (i : Int) < 9223372036854775807 by omega), cond_true, need_true]
      cases decide (l[i].Id = id) <;> rfl)
    (by simp only [slices_IndexFunc_Claim_cimpl_FindClaim_1_l2, ge_ln (Nat.le_refl _), cond_false])
  unfold impl_FindClaim slices_IndexFunc_Claim_cimpl_FindClaim_1 claimIx
  rw [hi]
  cases l.findIdx? (fun x => decide (x.Id = id)) <;> rfl
theorem claimIx_at (l : List Claim) (id : Int) : claimIx l id = -1 ∨ ∃ k : Nat, ∃ hk : k < l.length, claimIx l id = (k : Int) ∧ l[k].Id = id := by
  unfold claimIx
  cases hf : l.findIdx? (fun x => decide (x.Id = id)) with
  | none => exact .inl rfl
  | some i =>
    obtain ⟨hi, hp⟩ := find_at hf
    exact .inr ⟨i, hi, rfl, by simpa using hp⟩
theorem claimIx_has (l : List Claim) (id : Int) (j : Nat) (hj : j < l.length) (h : l[j].Id = id) : ∃ k : Nat, ∃ hk : k < l.length, claimIx l id = (k : Int) ∧ l[k].Id = id := by
  rcases claimIx_at l id with h0 | h0
  · exfalso
    unfold claimIx at h0
    cases hf : l.findIdx? (fun x => decide (x.Id = id)) with
    | none =>
      have := List.findIdx?_eq_none_iff.1 hf _ (List.getElem_mem hj)
      simp [h] at this
    | some i => rw [hf] at h0; simp only at h0; omega
  · exact h0
theorem trials_len (h : House) (ht : impl_areTrials h = some true) : h.Trials.length = h.Claims.length := by
  by_cases hlen : h.Trials.length = h.Claims.length
  · exact hlen
  · exfalso
    unfold impl_areTrials at ht
    rw [show (!decide (ln h.Trials = ln h.Claims)) = true from by rw [ln_eq, ln_eq]; simp; omega] at ht
    cases ht
end Go.Proofs.YtcdffihcfeajfaaGreat
