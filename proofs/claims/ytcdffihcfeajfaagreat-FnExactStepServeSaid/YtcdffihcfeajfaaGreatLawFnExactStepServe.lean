/- Proves FnExactStepServeSaid: the law FnExactStepServe holds at every call. No conditions beyond the row's own. -/
import Derived.Test.YtcdffihcfeajfaaGreatLifFnExactStepServe
import Derived.Test.YtcdffihcfeajfaaGreatRows
import Derived.Test.YtcdffihcfeajfaaGreatChecked
import Derived.WalkKit
import Derived.ProofKit
import Derived.OpenShut
import Derived.ShutString
import Derived.SizedLaws
import Derived.KernelRfl
namespace Go.Proofs.YtcdffihcfeajfaaGreat.fnExactStepServe
open Go Go.Proofs Go.Proofs.YtcdffihcfeajfaaGreat Go.Proofs.YtcdffihcfeajfaaGreat.Am Go.ChangeShapes Go.WideShapes Go.ChangeAt Go.RowKit
set_option maxHeartbeats 4000000
set_option linter.unusedVariables false
set_option linter.unusedSimpArgs false
set_option linter.defProp false
set_option maxRecDepth 100000
theorem j0 : laidOutB Tryz.pinned.checked.prog = true := by kernel_rfl
theorem j1 : (Rows.fnExactStepServeRow.inPlace == Tryz.pinned.checked.prog.inPlace 7) = true := by kernel_rfl
theorem j2 : (Rows.fnExactStepServeRow.unfollowed == Tryz.pinned.checked.prog.unfollowed 7) = true := by kernel_rfl
theorem j3 : (Rows.fnExactStepServeRow.recurses == Tryz.pinned.checked.prog.recurses 7) = true := by kernel_rfl
theorem j4 : (Rows.fnExactStepServeRow.named == Tryz.pinned.checked.prog.varsNamed 7) = true := by kernel_rfl
theorem j5 : mapsRowed Tryz.pinned.checked.prog = true := by kernel_rfl
theorem closed : joinedFacts Tryz.pinned.checked.prog 7 Tryz.f7 Rows.fnExactStepServeSpec Rows.fnExactStepServeRow = true := by
  unfold joinedFacts
  simp only [j0, j1, j2, j3, j4, j5, Bool.true_and, Bool.and_true]
  kernel_rfl
theorem over : Rows.fnExactStepServeRow.holds Tryz.pinned (OpenSpec.ofChange Rows.fnExactStepServeSpec) :=
  OpenClaim.holds_of_wide 7 Tryz.f7 rfl rfl rfl rfl rfl rfl rfl ⟨rfl, rfl, rfl, rfl, rfl⟩ rfl rfl rfl rfl rfl (by kernel_rfl) Tryz.func7 closed
    (of_decide_eq_true (by kernel_rfl)) (by unfold Func.isWrapper; first | (rw [if_pos (by decide +kernel)]; kernel_rfl) | (rw [if_neg (by decide +kernel)]; exact ⟨rfl, rfl⟩))
    (fun os started H enc _ => lifted os started H enc)
theorem proved : Rows.FnExactStepServeSaid := over
#print axioms proved
end Go.Proofs.YtcdffihcfeajfaaGreat.fnExactStepServe
namespace Go.Proofs.YtcdffihcfeajfaaGreat
/-- The row, under a short name, for the claim. -/
theorem fnExactStepServe_holds : Rows.FnExactStepServeSaid := fnExactStepServe.proved
end Go.Proofs.YtcdffihcfeajfaaGreat
