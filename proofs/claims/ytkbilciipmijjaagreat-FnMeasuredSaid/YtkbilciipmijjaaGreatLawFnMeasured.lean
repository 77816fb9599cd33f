import Derived.Test.YtkbilciipmijjaaGreatLifFnMeasured
import Derived.Test.YtkbilciipmijjaaGreatRows
import Derived.Test.YtkbilciipmijjaaGreatChecked
import Derived.WalkKit
import Derived.ProofKit
import Derived.OpenShut
import Derived.ShutString
import Derived.SizedLaws
import Derived.KernelRfl
namespace Go.Proofs.YtkbilciipmijjaaGreat.fnMeasured
open Go Go.Proofs Go.Proofs.YtkbilciipmijjaaGreat Go.Proofs.YtkbilciipmijjaaGreat.Am Go.ChangeShapes Go.WideShapes Go.ChangeAt Go.RowKit
set_option maxHeartbeats 4000000
set_option linter.unusedVariables false
set_option linter.unusedSimpArgs false
set_option linter.defProp false
set_option maxRecDepth 100000
theorem j0 : laidOutB Tryz.pinned.checked.prog = true := by kernel_rfl
theorem j1 : (Rows.fnMeasuredRow.inPlace == Tryz.pinned.checked.prog.inPlace 5) = true := by kernel_rfl
theorem j2 : (Rows.fnMeasuredRow.unfollowed == Tryz.pinned.checked.prog.unfollowed 5) = true := by kernel_rfl
theorem j3 : (Rows.fnMeasuredRow.recurses == Tryz.pinned.checked.prog.recurses 5) = true := by kernel_rfl
theorem j4 : (Rows.fnMeasuredRow.named == Tryz.pinned.checked.prog.varsNamed 5) = true := by kernel_rfl
theorem j5 : mapsRowed Tryz.pinned.checked.prog = true := by kernel_rfl
theorem closed : joinedFacts Tryz.pinned.checked.prog 5 Tryz.f5 Rows.fnMeasuredSpec Rows.fnMeasuredRow = true := by
 unfold joinedFacts
 simp only [j0, j1, j2, j3, j4, j5, Bool.true_and, Bool.and_true]
 kernel_rfl
theorem over : Rows.fnMeasuredRow.holds Tryz.pinned (OpenSpec.ofChange Rows.fnMeasuredSpec) :=
 OpenClaim.holds_of_wide 5 Tryz.f5 rfl rfl rfl rfl rfl rfl rfl ⟨rfl, rfl, rfl, rfl, rfl⟩ rfl rfl rfl rfl rfl (by kernel_rfl) Tryz.func5 closed
  (of_decide_eq_true (by kernel_rfl)) (by unfold Func.isWrapper; first | (rw [if_pos (by decide +kernel)]; kernel_rfl) | (rw [if_neg (by decide +kernel)]; exact ⟨rfl, rfl⟩))
  (fun os started H enc _ => lifted os started H enc)
theorem proved : Rows.FnMeasuredSaid := over
#print axioms proved
end Go.Proofs.YtkbilciipmijjaaGreat.fnMeasured
namespace Go.Proofs.YtkbilciipmijjaaGreat
theorem fnMeasured_holds : Rows.FnMeasuredSaid := fnMeasured.proved
end Go.Proofs.YtkbilciipmijjaaGreat
