import Derived.Test.YtcdffihcfeajfaaGreatLifFnExactRunEvents
import Derived.Test.YtcdffihcfeajfaaGreatRows
import Derived.Test.YtcdffihcfeajfaaGreatZm
import Derived.Test.YtcdffihcfeajfaaGreatChecked
import Derived.WalkKit
import Derived.ProofKit
import Derived.OpenShut
import Derived.ShutString
import Derived.SizedLaws
import Derived.KernelRfl
namespace Go.Proofs.YtcdffihcfeajfaaGreat.fnExactRunEvents
open Go Go.Proofs Go.Proofs.YtcdffihcfeajfaaGreat Go.Proofs.YtcdffihcfeajfaaGreat.Am Go.ChangeShapes Go.WideShapes Go.ChangeAt Go.RowKit
set_option maxHeartbeats 4000000
set_option linter.unusedVariables false
set_option linter.unusedSimpArgs false
set_option linter.defProp false
set_option maxRecDepth 100000
theorem j0 : laidOutB Tryz.pinned.checked.prog = true := by kernel_rfl
theorem j1 : (Rows.fnExactRunEventsRow.inPlace == Tryz.pinned.checked.prog.inPlace 12) = true := by kernel_rfl
theorem j2 : (Rows.fnExactRunEventsRow.unfollowed == Tryz.pinned.checked.prog.unfollowed 12) = true := by kernel_rfl
theorem j3 : (Rows.fnExactRunEventsRow.recurses == Tryz.pinned.checked.prog.recurses 12) = true := by kernel_rfl
theorem j4 : (Rows.fnExactRunEventsRow.named == Tryz.pinned.checked.prog.varsNamed 12) = true := by kernel_rfl
theorem j5 : mapsRowed Tryz.pinned.checked.prog = true := by kernel_rfl
theorem closed : joinedFacts Tryz.pinned.checked.prog 12 Tryz.f12 Rows.fnExactRunEventsSpec Rows.fnExactRunEventsRow = true := by
 unfold joinedFacts
 simp only [j0, j1, j2, j3, j4, j5, Bool.true_and, Bool.and_true]
 kernel_rfl
theorem over : Rows.fnExactRunEventsRow.holds Tryz.pinned (OpenSpec.ofChange Rows.fnExactRunEventsSpec) :=
 OpenClaim.holds_of_wide 12 Tryz.f12 rfl rfl rfl rfl rfl rfl rfl ⟨rfl, rfl, rfl, rfl, rfl⟩ rfl rfl rfl rfl rfl (by kernel_rfl) Tryz.func12 closed
  (of_decide_eq_true (by kernel_rfl)) (by unfold Func.isWrapper; first | (rw [if_pos (by decide +kernel)]; kernel_rfl) | (rw [if_neg (by decide +kernel)]; exact ⟨rfl, rfl⟩))
  (fun os started H enc _ => lifted os started H enc)
theorem proved : Rows.FnExactRunEventsSaid := over
#print axioms proved
end Go.Proofs.YtcdffihcfeajfaaGreat.fnExactRunEvents
namespace Go.Proofs.YtcdffihcfeajfaaGreat
theorem fnExactRunEvents_holds : Rows.FnExactRunEventsSaid := fnExactRunEvents.proved
end Go.Proofs.YtcdffihcfeajfaaGreat
