import Derived.Test.YtonidbheohhgdaaGreatLifFnTop
import Derived.Test.YtonidbheohhgdaaGreatRows
import Derived.Test.YtonidbheohhgdaaGreatZm
import Derived.Test.YtonidbheohhgdaaGreatChecked
import Derived.WalkKit
import Derived.ProofKit
import Derived.OpenShut
import Derived.ShutString
import Derived.SizedLaws
import Derived.KernelRfl
namespace Go.Proofs.YtonidbheohhgdaaGreat.fnTop
open Go Go.Proofs Go.Proofs.YtonidbheohhgdaaGreat Go.Proofs.YtonidbheohhgdaaGreat.Am Go.ChangeShapes Go.WideShapes Go.ChangeAt Go.RowKit
set_option maxHeartbeats 4000000
set_option linter.unusedVariables false
set_option linter.unusedSimpArgs false
set_option linter.defProp false
set_option maxRecDepth 100000
theorem j0 : laidOutB Tryz.pinned.checked.prog = true:=by kernel_rfl
theorem j1 : (Rows.fnTopRow.inPlace == Tryz.pinned.checked.prog.inPlace 3) = true:=by kernel_rfl
theorem j2 : (Rows.fnTopRow.unfollowed == Tryz.pinned.checked.prog.unfollowed 3) = true:=by kernel_rfl
theorem j3 : (Rows.fnTopRow.recurses == Tryz.pinned.checked.prog.recurses 3) = true:=by kernel_rfl
theorem j4 : (Rows.fnTopRow.named == Tryz.pinned.checked.prog.varsNamed 3) = true:=by kernel_rfl
theorem j5 : mapsRowed Tryz.pinned.checked.prog = true:=by kernel_rfl
theorem closed : joinedFacts Tryz.pinned.checked.prog 3 Tryz.f3 Rows.fnTopSpec Rows.fnTopRow = true:=by
 unfold joinedFacts
 simp only [j0,j1,j2,j3,j4,j5,Bool.true_and,Bool.and_true]
 kernel_rfl
theorem over : Rows.fnTopRow.holds Tryz.pinned (OpenSpec.ofChange Rows.fnTopSpec) :=
 OpenClaim.holds_of_wide 3 Tryz.f3 rfl rfl rfl rfl rfl rfl rfl ⟨rfl,rfl,rfl,rfl,rfl⟩ rfl rfl rfl rfl rfl (by kernel_rfl) Tryz.func3 closed
  (of_decide_eq_true (by kernel_rfl)) (by unfold Func.isWrapper; first | (rw [if_pos (by decide +kernel)]; kernel_rfl) | (rw [if_neg (by decide +kernel)]; exact ⟨rfl,rfl⟩))
  (fun os started H enc _=>lifted os started H enc)
theorem proved : Rows.FnTopSaid:=over
#print axioms proved
end Go.Proofs.YtonidbheohhgdaaGreat.fnTop
namespace Go.Proofs.YtonidbheohhgdaaGreat
theorem fnTop_holds : Rows.FnTopSaid:=fnTop.proved
end Go.Proofs.YtonidbheohhgdaaGreat
