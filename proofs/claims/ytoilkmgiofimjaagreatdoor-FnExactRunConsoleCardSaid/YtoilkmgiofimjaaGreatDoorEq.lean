import Derived.Test.YtoilkmgiofimjaaGreatDoorEq6
namespace Go.Proofs.YtoilkmgiofimjaaGreatDoor
open Go Go.Proofs Go.Proofs.YtoilkmgiofimjaaGreatDoor.Am Tryz
set_option maxHeartbeats 4000000
set_option linter.unusedVariables false
set_option linter.unusedSimpArgs false
set_option linter.defProp false
set_option maxRecDepth 100000
variable(n:Nat)
theorem HZ(a):CP T (n+18) 3 [.s a]=(Aq a).map λr=>.b r:=by
 rw[Qp];simp -dsimp +contextual only[↓evA,eZ,simprocAttr,func3,f3,Aa3,An3,srt,On,OZ,RK,Nn,Nx]
 try simp only[Aq,eY]
 all_goals rfl
end Go.Proofs.YtoilkmgiofimjaaGreatDoor
