import Derived.Test.YtcdffihcfeajfaaGreatLifFnExactApplyEvent
import Derived.Test.YtcdffihcfeajfaaGreatRows
import Derived.Test.YtcdffihcfeajfaaGreatZm
import Derived.Test.YtcdffihcfeajfaaGreatChecked
import Derived.WalkKit
import Derived.ProofKit
import Derived.OpenShut
import Derived.ShutString
import Derived.SizedLaws
import Derived.KernelRfl
namespace Go.Proofs.YtcdffihcfeajfaaGreat.fnExactApplyEvent
open Go Go.Proofs Go.Proofs.YtcdffihcfeajfaaGreat Go.Proofs.YtcdffihcfeajfaaGreat.Am Go.ChangeShapes Go.WideShapes Go.ChangeAt Go.RowKit
set_option maxHeartbeats 4000000
set_option linter.unusedVariables false
set_option linter.unusedSimpArgs false
set_option linter.defProp false
set_option maxRecDepth 100000
theorem j0 : laidOutB Tryz.pinned.checked.prog = true := by kernel_rfl
theorem j1 : (Rows.fnExactApplyEventRow.inPlace == Tryz.pinned.checked.prog.inPlace 11) = true := by kernel_rfl
theorem j2 : (Rows.fnExactApplyEventRow.unfollowed == Tryz.pinned.checked.prog.unfollowed 11) = true := by kernel_rfl
theorem j3 : (Rows.fnExactApplyEventRow.recurses == Tryz.pinned.checked.prog.recurses 11) = true := by kernel_rfl
theorem j4 : (Rows.fnExactApplyEventRow.named == Tryz.pinned.checked.prog.varsNamed 11) = true := by kernel_rfl
theorem j5 : mapsRowed Tryz.pinned.checked.prog = true := by kernel_rfl
theorem closed : joinedFacts Tryz.pinned.checked.prog 11 Tryz.f11 Rows.fnExactApplyEventSpec Rows.fnExactApplyEventRow = true := by
 unfold joinedFacts
 simp only [j0, j1, j2, j3, j4, j5, Bool.true_and, Bool.and_true]
 kernel_rfl
theorem over : Rows.fnExactApplyEventRow.holds Tryz.pinned (OpenSpec.ofChange Rows.fnExactApplyEventSpec) :=
 OpenClaim.holds_of_wide 11 Tryz.f11 rfl rfl rfl rfl rfl rfl rfl ⟨rfl, rfl, rfl, rfl, rfl⟩ rfl rfl rfl rfl rfl (by kernel_rfl) Tryz.func11 closed
  (of_decide_eq_true (by kernel_rfl)) (by unfold Func.isWrapper; first | (rw [if_pos (by decide +kernel)]; kernel_rfl) | (rw [if_neg (by decide +kernel)]; exact ⟨rfl, rfl⟩))
  (fun os started H enc _ => lifted os started H enc)
theorem proved : Rows.FnExactApplyEventSaid := over
#print axioms proved
end Go.Proofs.YtcdffihcfeajfaaGreat.fnExactApplyEvent
namespace Go.Proofs.YtcdffihcfeajfaaGreat
theorem fnExactApplyEvent_holds : Rows.FnExactApplyEventSaid := fnExactApplyEvent.proved
end Go.Proofs.YtcdffihcfeajfaaGreat
