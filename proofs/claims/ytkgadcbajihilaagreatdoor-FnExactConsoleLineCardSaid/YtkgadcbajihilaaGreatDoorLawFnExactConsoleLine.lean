import Derived.Test.YtkgadcbajihilaaGreatDoorLifFnExactConsoleLine
import Derived.LaidMore
import Derived.Lay
import Derived.LaidHandle
import Derived.MakeChecks
import Derived.Stop.LaidErr
import Derived.Lib.LaidTab
import Derived.SevenTiedAt
import Derived.WalkKit
import Derived.ProofKit
import Derived.OpenShut
import Derived.ShutString
import Derived.SizedLaws
import Derived.KernelRfl
namespace Go.Proofs.YtkgadcbajihilaaGreatDoor.fnExactConsoleLine
open Go Go.Proofs Go.Proofs.YtkgadcbajihilaaGreatDoor Go.Proofs.YtkgadcbajihilaaGreatDoor.Am Go.ChangeShapes Go.WideShapes Go.ChangeAt Go.RowKit
set_option maxHeartbeats 4000000
set_option linter.unusedVariables false
set_option linter.unusedSimpArgs false
set_option linter.defProp false
set_option maxRecDepth 100000
theorem j0:laidOutB Tryz.pinned.checked.prog=true:=by kernel_rfl
theorem j1:(Rows.fnExactConsoleLineRow.inPlace==Tryz.pinned.checked.prog.inPlace 3)=true:=by kernel_rfl
theorem j2:(Rows.fnExactConsoleLineRow.unfollowed==Tryz.pinned.checked.prog.unfollowed 3)=true:=by kernel_rfl
theorem j3:(Rows.fnExactConsoleLineRow.recurses==Tryz.pinned.checked.prog.recurses 3)=true:=by kernel_rfl
theorem j4:(Rows.fnExactConsoleLineRow.named==Tryz.pinned.checked.prog.varsNamed 3)=true:=by kernel_rfl
theorem j5:mapsRowed Tryz.pinned.checked.prog=true:=by kernel_rfl
theorem closed:joinedFacts Tryz.pinned.checked.prog 3 Tryz.f3 Rows.fnExactConsoleLineSpec Rows.fnExactConsoleLineRow=true:=by
 unfold joinedFacts;simp only[j0,j1,j2,j3,j4,j5,Bool.true_and,Bool.and_true]
 kernel_rfl
theorem no_go:Tryz.pinned.checked.prog.funcs.any Func.goes=false:=by kernel_rfl
theorem goes_none{P:Program}(h:P.funcs.any Func.goes=false)(f:FuncId):P.goes f=false:=by
 unfold Program.goes;rw[h,Bool.and_false,Bool.or_false,List.any_eq_false];intro g _ hg;cases hf:P.funcs[g]? with
 |none=>rw[hf]at hg;cases hg
 |some fn =>
  rw[hf]at hg;have hm:=Array.mem_of_getElem? hf;rw[Array.any_eq_false']at h;exact h fn hm hg
theorem goes0:false=Rows.fnExactConsoleLineRow.goesBy Tryz.pinned.checked.prog:=by
 show false=(Option.any Tryz.pinned.checked.prog.goes (Tryz.pinned.checked.prog.funcNamed _)||false);cases Tryz.pinned.checked.prog.funcNamed _ with
 |none=>rfl
 |some f=>rw[Bool.or_false];exact(goes_none no_go f).symm
theorem over:Rows.fnExactConsoleLineRow.holds Tryz.pinned (OpenSpec.ofChange Rows.fnExactConsoleLineSpec) :=
 OpenClaim.holds_of_wide 3 Tryz.f3 rfl rfl rfl rfl rfl rfl rfl ⟨rfl,rfl,rfl,rfl,rfl⟩ rfl rfl rfl rfl rfl (by kernel_rfl) Tryz.func3 closed
  (of_decide_eq_true (by kernel_rfl)) (by unfold Func.isWrapper;first|(rw[if_pos (by decide +kernel)];kernel_rfl)|(rw[if_neg (by decide +kernel)];exact⟨rfl,rfl⟩))
  (λos started H enc _=>lifted os started H enc)
theorem card:Rows.FnExactConsoleLineCardSaid :=
 Claim7.holds_tied_plain_at .later [] [.data,.data,.data,.data,.pinned] true (true, "8d527c066639be3d86d3847548041ad84a4a9694ae5f0fa7dfe45002daaf7795") false
  over (λ_ h=>by cases h) (by kernel_rfl) (λ_ h=>by cases h) fnExactConsoleLine_row_tie rfl ⟨rfl,rfl⟩ (by kernel_rfl) rfl
  (λf fn hf hfn=>by
   obtain rfl:f=3:=Option.some.inj ((show Tryz.prog.funcNamed "loop.example/g03007/laws.FnExactConsoleLine" = some 3 by kernel_rfl).symm.trans hf) |>.symm
   obtain rfl:fn=Tryz.f3:=(Option.some.inj (Tryz.func3.symm.trans hfn)).symm;exact⟨by kernel_rfl,λj t ht=>by
    rw[Tryz.params3]at ht;have hm:t∈[30,9]:=by simpa using Array.mem_of_getElem? ht
    have hall:([30,9].all λu=>!Tryz.prog.wantsStandIn u)=true:=by kernel_rfl
    exact(show Tryz.prog.wantsStandIn t=false by simpa using List.all_eq_true.1 hall t hm)⟩)
  goes0
#print axioms card
end Go.Proofs.YtkgadcbajihilaaGreatDoor.fnExactConsoleLine
namespace Go.Proofs.YtkgadcbajihilaaGreatDoor
theorem fnExactConsoleLine_holds:Rows.FnExactConsoleLineCardSaid:=fnExactConsoleLine.card
end Go.Proofs.YtkgadcbajihilaaGreatDoor
