import Derived.Test.YtncpklppoancgaaGreatLifFnSteps
import Derived.Test.YtncpklppoancgaaGreatRows
import Derived.Test.YtncpklppoancgaaGreatZm
import Derived.Test.YtncpklppoancgaaGreatChecked
import Derived.WalkKit
import Derived.ProofKit
import Derived.OpenShut
import Derived.ShutString
import Derived.SizedLaws
import Derived.KernelRfl
namespace Go.Proofs.YtncpklppoancgaaGreat.fnSteps
open Go Go.Proofs Go.Proofs.YtncpklppoancgaaGreat Go.Proofs.YtncpklppoancgaaGreat.Am Go.ChangeShapes Go.WideShapes Go.ChangeAt Go.RowKit
set_option maxHeartbeats 4000000
set_option linter.unusedVariables false
set_option linter.unusedSimpArgs false
set_option linter.defProp false
set_option maxRecDepth 100000
theorem j0 : laidOutB Tryz.pinned.checked.prog = true:=by kernel_rfl
theorem j1 : (Rows.fnStepsRow.inPlace == Tryz.pinned.checked.prog.inPlace 4) = true:=by kernel_rfl
theorem j2 : (Rows.fnStepsRow.unfollowed == Tryz.pinned.checked.prog.unfollowed 4) = true:=by kernel_rfl
theorem j3 : (Rows.fnStepsRow.recurses == Tryz.pinned.checked.prog.recurses 4) = true:=by kernel_rfl
theorem j4 : (Rows.fnStepsRow.named == Tryz.pinned.checked.prog.varsNamed 4) = true:=by kernel_rfl
theorem j5 : mapsRowed Tryz.pinned.checked.prog = true:=by kernel_rfl
theorem closed : joinedFacts Tryz.pinned.checked.prog 4 Tryz.f4 Rows.fnStepsSpec Rows.fnStepsRow = true:=by
 unfold joinedFacts
 simp only [j0,j1,j2,j3,j4,j5,Bool.true_and,Bool.and_true]
 kernel_rfl
theorem over : Rows.fnStepsRow.holds Tryz.pinned (OpenSpec.ofChange Rows.fnStepsSpec) :=
 OpenClaim.holds_of_wide 4 Tryz.f4 rfl rfl rfl rfl rfl rfl rfl ⟨rfl,rfl,rfl,rfl,rfl⟩ rfl rfl rfl rfl rfl (by kernel_rfl) Tryz.func4 closed
  (of_decide_eq_true (by kernel_rfl)) (by unfold Func.isWrapper; first | (rw [if_pos (by decide +kernel)]; kernel_rfl) | (rw [if_neg (by decide +kernel)]; exact ⟨rfl,rfl⟩))
  (fun os started H enc _=>lifted os started H enc)
theorem proved : Rows.FnStepsSaid:=over
#print axioms proved
end Go.Proofs.YtncpklppoancgaaGreat.fnSteps
namespace Go.Proofs.YtncpklppoancgaaGreat
theorem fnSteps_holds : Rows.FnStepsSaid:=fnSteps.proved
end Go.Proofs.YtncpklppoancgaaGreat
