import Derived.Test.YtcdffihcfeajfaaGreatLifFnExactStepSell
import Derived.Test.YtcdffihcfeajfaaGreatRows
import Derived.Test.YtcdffihcfeajfaaGreatChecked
import Derived.WalkKit
import Derived.ProofKit
import Derived.OpenShut
import Derived.ShutString
import Derived.SizedLaws
import Derived.KernelRfl
namespace Go.Proofs.YtcdffihcfeajfaaGreat.fnExactStepSell
open Go Go.Proofs Go.Proofs.YtcdffihcfeajfaaGreat Go.Proofs.YtcdffihcfeajfaaGreat.Am Go.ChangeShapes Go.WideShapes Go.ChangeAt Go.RowKit
set_option maxHeartbeats 4000000
set_option linter.unusedVariables false
set_option linter.unusedSimpArgs false
set_option linter.defProp false
set_option maxRecDepth 100000
theorem j0 : laidOutB Tryz.pinned.checked.prog = true := by kernel_rfl
theorem j1 : (Rows.fnExactStepSellRow.inPlace == Tryz.pinned.checked.prog.inPlace 10) = true := by kernel_rfl
theorem j2 : (Rows.fnExactStepSellRow.unfollowed == Tryz.pinned.checked.prog.unfollowed 10) = true := by kernel_rfl
theorem j3 : (Rows.fnExactStepSellRow.recurses == Tryz.pinned.checked.prog.recurses 10) = true := by kernel_rfl
theorem j4 : (Rows.fnExactStepSellRow.named == Tryz.pinned.checked.prog.varsNamed 10) = true := by kernel_rfl
theorem j5 : mapsRowed Tryz.pinned.checked.prog = true := by kernel_rfl
theorem closed : joinedFacts Tryz.pinned.checked.prog 10 Tryz.f10 Rows.fnExactStepSellSpec Rows.fnExactStepSellRow = true := by
 unfold joinedFacts
 simp only [j0, j1, j2, j3, j4, j5, Bool.true_and, Bool.and_true]
 kernel_rfl
theorem over : Rows.fnExactStepSellRow.holds Tryz.pinned (OpenSpec.ofChange Rows.fnExactStepSellSpec) :=
 OpenClaim.holds_of_wide 10 Tryz.f10 rfl rfl rfl rfl rfl rfl rfl ⟨rfl, rfl, rfl, rfl, rfl⟩ rfl rfl rfl rfl rfl (by kernel_rfl) Tryz.func10 closed
  (of_decide_eq_true (by kernel_rfl)) (by unfold Func.isWrapper; first | (rw [if_pos (by decide +kernel)]; kernel_rfl) | (rw [if_neg (by decide +kernel)]; exact ⟨rfl, rfl⟩))
  (fun os started H enc _ => lifted os started H enc)
theorem proved : Rows.FnExactStepSellSaid := over
#print axioms proved
end Go.Proofs.YtcdffihcfeajfaaGreat.fnExactStepSell
namespace Go.Proofs.YtcdffihcfeajfaaGreat
theorem fnExactStepSell_holds : Rows.FnExactStepSellSaid := fnExactStepSell.proved
end Go.Proofs.YtcdffihcfeajfaaGreat
