import Derived.Test.YtonidbheohhgdaaGreatFn
import Derived.Test.YtonidbheohhgdaaGreatPl
namespace Go.Proofs.YtonidbheohhgdaaGreat
open Go
set_option maxHeartbeats 4000000
set_option linter.unusedVariables false
set_option linter.unusedSimpArgs false
set_option linter.defProp false
set_option maxRecDepth 100000
theorem QR{n b:Nat}(h:n≤2000000)(hb:b≤1024):rm n b=true:=by
 unfold rm;have h1:n*b≤2000000*1024:=Nat.mul_le_mul h hb;have h3:n*b≤140737488355328:=by omega
 simp only[h3,decide_true]
def smL{α:Type}(ok:α→Prop)(l:List α):Prop:=l.length≤1048576∧∀x∈l,ok x
def QcL(x:Secret):Prop:=x.Marks.length≤1048576
def Qi(x:House):Prop:=x.Finds.length≤1048576∧smL QcL x.Secrets∧x.Slots.length≤1048576∧x.Claims.length≤1048576∧x.Trials.length≤1048576∧x.Chain.length≤1048576∧x.Book.length≤1048576
def Z5(x:Event):Prop:=x.Marks.length≤1048576∧x.Bids.length≤1048576
def Vs(x:Report):Prop:=x.Colours.length≤1048576∧x.Places.length≤1048576
end Go.Proofs.YtonidbheohhgdaaGreat
