import Derived.Test.YtoilkmgiofimjaaGreatDoorPz8
import Derived.Test.YtoilkmgiofimjaaGreatDoorPyMkS
namespace Go.Proofs.YtoilkmgiofimjaaGreatDoor
open Go
set_option linter.unusedVariables false
set_option linter.unusedSimpArgs false
theorem Kk(a:List UInt8)(h1:fW a):Aq a=some true:=by
 unfold Aq;by_cases hl:1048576<a.length
 ·rw[show decide (1048576<ln a)=true from Qf (by rw[Q5];omega)];rfl
 rw[show decide (1048576<ln a)=false from Qe (by rw[Q5];omega),Qb]
 obtain⟨r,r1,r2,r3,_⟩:=gI a (by omega)
 have e1:=Wv r.1 (by omega)
 have e2:=cU r.1 (by omega)
 have e3:=eD r.1.length (by omega)
 simp only[r1,r2,e1,e2,e3,Qa,decide_true,Qh,Bool.or_self,Qb,Qe (show ¬((r.1.length:Int)+1<0)by omega)]
end Go.Proofs.YtoilkmgiofimjaaGreatDoor
