import Derived.Test.YtfhnbabcbhgffaaGreatDoorFn
import Derived.Test.YtfhnbabcbhgffaaGreatDoorPl
set_option maxHeartbeats 4000000
set_option linter.unusedVariables false
set_option linter.unusedSimpArgs false
set_option linter.defProp false
set_option maxRecDepth 100000
namespace Go.Proofs.YtfhnbabcbhgffaaGreatDoor
open Go
def VT{n b:Nat}(h:n≤2000000)(hb:b≤1024):rm n b=true:=by
 unfold rm;have h1:n*b≤2000000*1024:=Nat.mul_le_mul h hb;have h3:n*b≤140737488355328:=by omega
 simp only[h3,decide_true]
def tw{α:Type}(ok:α→Prop)(l:List α):Prop:=l.length≤1048576∧∀x∈l,ok x
def Gw(x:Qm):Prop:=x.Marks.length≤1048576
def QS(x:Ql):Prop:=x.Qt.length≤1048576∧tw Gw x.Qn∧x.Qs.length≤1048576∧x.Qv.length≤1048576∧x.Qq.length≤1048576∧x.Qw.length≤1048576∧x.Book.length≤1048576
end Go.Proofs.YtfhnbabcbhgffaaGreatDoor
