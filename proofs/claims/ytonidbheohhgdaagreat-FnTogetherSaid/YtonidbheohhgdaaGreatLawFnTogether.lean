import Derived.Test.YtonidbheohhgdaaGreatLifFnTogether
import Derived.Test.YtonidbheohhgdaaGreatRows
import Derived.Test.YtonidbheohhgdaaGreatChecked
import Derived.WalkKit
import Derived.ProofKit
import Derived.OpenShut
import Derived.ShutString
import Derived.SizedLaws
import Derived.KernelRfl
namespace Go.Proofs.YtonidbheohhgdaaGreat.fnTogether
open Go Go.Proofs Go.Proofs.YtonidbheohhgdaaGreat Go.Proofs.YtonidbheohhgdaaGreat.Am Go.ChangeShapes Go.WideShapes Go.ChangeAt Go.RowKit
set_option maxHeartbeats 4000000
set_option linter.unusedVariables false
set_option linter.unusedSimpArgs false
set_option linter.defProp false
set_option maxRecDepth 100000
theorem j0:laidOutB Tryz.pinned.checked.prog=true:=by kernel_rfl
theorem j1:(Rows.fnTogetherRow.inPlace==Tryz.pinned.checked.prog.inPlace 4)=true:=by kernel_rfl
theorem j2:(Rows.fnTogetherRow.unfollowed==Tryz.pinned.checked.prog.unfollowed 4)=true:=by kernel_rfl
theorem j3:(Rows.fnTogetherRow.recurses==Tryz.pinned.checked.prog.recurses 4)=true:=by kernel_rfl
theorem j4:(Rows.fnTogetherRow.named==Tryz.pinned.checked.prog.varsNamed 4)=true:=by kernel_rfl
theorem j5:mapsRowed Tryz.pinned.checked.prog=true:=by kernel_rfl
theorem closed:joinedFacts Tryz.pinned.checked.prog 4 Tryz.f4 Rows.fnTogetherSpec Rows.fnTogetherRow=true:=by
 unfold joinedFacts;simp only[j0,j1,j2,j3,j4,j5,Bool.true_and,Bool.and_true]
 kernel_rfl
theorem over:Rows.fnTogetherRow.holds Tryz.pinned (OpenSpec.ofChange Rows.fnTogetherSpec) :=
 OpenClaim.holds_of_wide 4 Tryz.f4 rfl rfl rfl rfl rfl rfl rfl ⟨rfl,rfl,rfl,rfl,rfl⟩ rfl rfl rfl rfl rfl (by kernel_rfl) Tryz.func4 closed
  (of_decide_eq_true (by kernel_rfl)) (by unfold Func.isWrapper;first|(rw[if_pos (by decide +kernel)];kernel_rfl)|(rw[if_neg (by decide +kernel)];exact⟨rfl,rfl⟩))
  (fun os started H enc _=>lifted os started H enc)
theorem proved:Rows.FnTogetherSaid:=over
#print axioms proved
end Go.Proofs.YtonidbheohhgdaaGreat.fnTogether
namespace Go.Proofs.YtonidbheohhgdaaGreat
theorem fnTogether_holds:Rows.FnTogetherSaid:=fnTogether.proved
end Go.Proofs.YtonidbheohhgdaaGreat
