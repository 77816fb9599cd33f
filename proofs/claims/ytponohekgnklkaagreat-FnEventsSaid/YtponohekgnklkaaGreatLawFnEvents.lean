import Derived.Test.YtponohekgnklkaaGreatLifFnEvents
import Derived.Test.YtponohekgnklkaaGreatRows
import Derived.Test.YtponohekgnklkaaGreatZm
import Derived.Test.YtponohekgnklkaaGreatChecked
import Derived.WalkKit
import Derived.ProofKit
import Derived.OpenShut
import Derived.ShutString
import Derived.SizedLaws
import Derived.KernelRfl
namespace Go.Proofs.YtponohekgnklkaaGreat.fnEvents
open Go Go.Proofs Go.Proofs.YtponohekgnklkaaGreat Go.Proofs.YtponohekgnklkaaGreat.Am Go.ChangeShapes Go.WideShapes Go.ChangeAt Go.RowKit
set_option maxHeartbeats 4000000
set_option linter.unusedVariables false
set_option linter.unusedSimpArgs false
set_option linter.defProp false
set_option maxRecDepth 100000
theorem j0 : laidOutB Tryz.pinned.checked.prog = true := by kernel_rfl
theorem j1 : (Rows.fnEventsRow.inPlace == Tryz.pinned.checked.prog.inPlace 3) = true := by kernel_rfl
theorem j2 : (Rows.fnEventsRow.unfollowed == Tryz.pinned.checked.prog.unfollowed 3) = true := by kernel_rfl
theorem j3 : (Rows.fnEventsRow.recurses == Tryz.pinned.checked.prog.recurses 3) = true := by kernel_rfl
theorem j4 : (Rows.fnEventsRow.named == Tryz.pinned.checked.prog.varsNamed 3) = true := by kernel_rfl
theorem j5 : mapsRowed Tryz.pinned.checked.prog = true := by kernel_rfl
theorem closed : joinedFacts Tryz.pinned.checked.prog 3 Tryz.f3 Rows.fnEventsSpec Rows.fnEventsRow = true := by
 unfold joinedFacts
 simp only [j0, j1, j2, j3, j4, j5, Bool.true_and, Bool.and_true]
 kernel_rfl
theorem over : Rows.fnEventsRow.holds Tryz.pinned (OpenSpec.ofChange Rows.fnEventsSpec) :=
 OpenClaim.holds_of_wide 3 Tryz.f3 rfl rfl rfl rfl rfl rfl rfl ⟨rfl, rfl, rfl, rfl, rfl⟩ rfl rfl rfl rfl rfl (by kernel_rfl) Tryz.func3 closed
  (of_decide_eq_true (by kernel_rfl)) (by unfold Func.isWrapper; first | (rw [if_pos (by decide +kernel)]; kernel_rfl) | (rw [if_neg (by decide +kernel)]; exact ⟨rfl, rfl⟩))
  (fun os started H enc _ => lifted os started H enc)
theorem proved : Rows.FnEventsSaid := over
#print axioms proved
end Go.Proofs.YtponohekgnklkaaGreat.fnEvents
namespace Go.Proofs.YtponohekgnklkaaGreat
theorem fnEvents_holds : Rows.FnEventsSaid := fnEvents.proved
end Go.Proofs.YtponohekgnklkaaGreat
