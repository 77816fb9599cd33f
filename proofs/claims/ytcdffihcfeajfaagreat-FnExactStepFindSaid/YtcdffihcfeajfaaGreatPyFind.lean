/- A find looked up: the program's answer is the reference's. No condition but the length. -/
import Derived.Test.YtcdffihcfeajfaaGreatFam
namespace Go.Proofs.YtcdffihcfeajfaaGreat
open Go
set_option linter.unusedVariables false
set_option linter.unusedSimpArgs false
def findIx (l : List Find) (id : Int) : Int := match l.findIdx? (fun x => decide (x.Thing.Id = id)) with | some i => (i : Int) | none => -1
theorem findThing (l : List Find) (id : Int) (hl : l.length ≤ 1048576) : spec_FindThing l id = some (findIx l id) ∧ impl_FindThing l id = some (findIx l id) := by
  have hs := run_find l (fun x => decide (x.Thing.Id = id)) (fun i => (i : Int)) (step := spec_FindThing_l2 l id)
    (fun i hi => by
      simp only [spec_FindThing_l2, lt_ln hi, inb_n hi, gt_n hi, w64_n (show (i : Int) < 9223372036854775807 by omega), cond_true, need_true]
      cases decide (l[i].Thing.Id = id) <;> rfl)
    (by simp only [spec_FindThing_l2, ge_ln (Nat.le_refl _), cond_false])
  have hi := run_find l (fun x => decide (x.Thing.Id = id)) (fun i => (i : Int)) (step := slices_IndexFunc_Find_cimpl_FindThing_1_l2 l id (ln l))
    (fun i hi => by
      simp only [slices_IndexFunc_Find_cimpl_FindThing_1_l2, impl_FindThing_1, Option.bind_some, lt_ln hi, inb_n hi, gt_n hi, w64_n (show (i : Int) < 9223372036854775807 by omega), cond_true, need_true]
      cases decide (l[i].Thing.Id = id) <;> rfl)
    (by simp only [slices_IndexFunc_Find_cimpl_FindThing_1_l2, ge_ln (Nat.le_refl _), cond_false])
  unfold spec_FindThing impl_FindThing slices_IndexFunc_Find_cimpl_FindThing_1 findIx
  rw [hs, hi]
  cases l.findIdx? (fun x => decide (x.Thing.Id = id)) <;> exact ⟨rfl, rfl⟩
end Go.Proofs.YtcdffihcfeajfaaGreat
