import Derived.Test.YtfhnbabcbhgffaaGreatDoorLifFnConsole
import Derived.LaidMore
import Derived.Lay
import Derived.LaidHandle
import Derived.MakeChecks
import Derived.Stop.LaidErr
import Derived.Lib.LaidTab
import Derived.SevenTiedAt
import Derived.WalkKit
import Derived.ProofKit
import Derived.OpenShut
import Derived.ShutString
import Derived.SizedLaws
import Derived.KernelRfl
namespace Go.Proofs.YtfhnbabcbhgffaaGreatDoor.fnConsole
open Go Go.Proofs Go.Proofs.YtfhnbabcbhgffaaGreatDoor Go.Proofs.YtfhnbabcbhgffaaGreatDoor.Am Go.ChangeShapes Go.WideShapes Go.ChangeAt Go.RowKit
set_option maxHeartbeats 4000000
set_option linter.unusedVariables false
set_option linter.unusedSimpArgs false
set_option linter.defProp false
set_option maxRecDepth 100000
theorem j0:laidOutB Tryz.pinned.checked.prog=true:=by kernel_rfl
theorem j1:(Rows.fnConsoleRow.inPlace==Tryz.pinned.checked.prog.inPlace 3)=true:=by kernel_rfl
theorem j2:(Rows.fnConsoleRow.unfollowed==Tryz.pinned.checked.prog.unfollowed 3)=true:=by kernel_rfl
theorem j3:(Rows.fnConsoleRow.recurses==Tryz.pinned.checked.prog.recurses 3)=true:=by kernel_rfl
theorem j4:(Rows.fnConsoleRow.named==Tryz.pinned.checked.prog.varsNamed 3)=true:=by kernel_rfl
theorem j5:mapsRowed Tryz.pinned.checked.prog=true:=by kernel_rfl
theorem closed:joinedFacts Tryz.pinned.checked.prog 3 Tryz.f3 Rows.fnConsoleSpec Rows.fnConsoleRow=true:=by
 unfold joinedFacts;simp only[j0,j1,j2,j3,j4,j5,Bool.true_and,Bool.and_true]
 kernel_rfl
theorem no_go:Tryz.pinned.checked.prog.funcs.any Func.goes=false:=by kernel_rfl
theorem goes_none{P:Program}(h:P.funcs.any Func.goes=false)(f:FuncId):P.goes f=false:=by
 unfold Program.goes;rw[h,Bool.and_false,Bool.or_false,List.any_eq_false];intro g _ hg;cases hf:P.funcs[g]? with
 |none=>rw[hf]at hg;cases hg
 |some fn =>
  rw[hf]at hg;have hm:=Array.mem_of_getElem? hf;rw[Array.any_eq_false']at h;exact h fn hm hg
theorem goes0:false=Rows.fnConsoleRow.goesBy Tryz.pinned.checked.prog:=by
 show false=(Option.any Tryz.pinned.checked.prog.goes (Tryz.pinned.checked.prog.funcNamed _)||false);cases Tryz.pinned.checked.prog.funcNamed _ with
 |none=>rfl
 |some f=>rw[Bool.or_false];exact(goes_none no_go f).symm
theorem over:Rows.fnConsoleRow.holds Tryz.pinned (OpenSpec.ofChange Rows.fnConsoleSpec) :=
 OpenClaim.holds_of_wide 3 Tryz.f3 rfl rfl rfl rfl rfl rfl rfl ⟨rfl,rfl,rfl,rfl,rfl⟩ rfl rfl rfl rfl rfl (by kernel_rfl) Tryz.func3 closed
  (of_decide_eq_true (by kernel_rfl)) (by unfold Func.isWrapper;first|(rw[if_pos (by decide +kernel)];kernel_rfl)|(rw[if_neg (by decide +kernel)];exact⟨rfl,rfl⟩))
  (λos started H enc _=>lifted os started H enc)
theorem card:Rows.FnConsoleCardSaid :=
 Claim7.holds_tied_plain_at .later [] [.data,.data,.data,.data,.pinned] true (true, "abdbf104f71edd99f094f78a1aeef8a3518991fb59bd9cedf77bbf382e4732e1") false
  over (λ_ h=>by cases h) (by kernel_rfl) (λ_ h=>by cases h) fnConsole_row_tie rfl ⟨rfl,rfl⟩ (by kernel_rfl) rfl
  (λf fn hf hfn=>by
   obtain rfl:f=3:=Option.some.inj ((show Tryz.prog.funcNamed "loop.example/g03007/laws.FnConsole" = some 3 by kernel_rfl).symm.trans hf) |>.symm
   obtain rfl:fn=Tryz.f3:=(Option.some.inj (Tryz.func3.symm.trans hfn)).symm;exact⟨by kernel_rfl,λj t ht=>by
    rw[Tryz.params3]at ht;have hm:t∈[22]:=by simpa using Array.mem_of_getElem? ht
    have hall:([22].all λu=>!Tryz.prog.wantsStandIn u)=true:=by kernel_rfl
    exact(show Tryz.prog.wantsStandIn t=false by simpa using List.all_eq_true.1 hall t hm)⟩)
  goes0
#print axioms card
end Go.Proofs.YtfhnbabcbhgffaaGreatDoor.fnConsole
namespace Go.Proofs.YtfhnbabcbhgffaaGreatDoor
theorem fnConsole_holds:Rows.FnConsoleCardSaid:=fnConsole.card
end Go.Proofs.YtfhnbabcbhgffaaGreatDoor
