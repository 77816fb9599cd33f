/- Claims by id. The program's answers are the reference's. No condition but the length. -/
import Derived.Test.YtcdffihcfeajfaaGreatPyFc
namespace Go.Proofs.YtcdffihcfeajfaaGreat
open Go
set_option linter.unusedVariables false
set_option linter.unusedSimpArgs false
theorem findClaim (l : List Claim) (id : Int) (hl : l.length ≤ 1048576) : spec_FindClaim l id = some (claimIx l id) ∧ impl_FindClaim l id = some (claimIx l id) := by
  have hs := run_find l (fun x => decide (x.Id = id)) (fun i => (i : Int)) (step := spec_FindClaim_l2 l id)
    (fun i hi => by
      simp only [spec_FindClaim_l2, lt_ln hi, inb_n hi, gt_n hi, w64_n (show (i : Int) < 9223372036854775807 by omega), cond_true, need_true]
      cases decide (l[i].Id = id) <;> rfl)
    (by simp only [spec_FindClaim_l2, ge_ln (Nat.le_refl _), cond_false])
  refine ⟨?_, findClaimI l id hl⟩
  unfold spec_FindClaim claimIx
  rw [hs]
  cases l.findIdx? (fun x => decide (x.Id = id)) <;> rfl
end Go.Proofs.YtcdffihcfeajfaaGreat
