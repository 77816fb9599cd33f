import Derived.Test.YtoilkmgiofimjaaGreatDoorFn
import Derived.Test.YtoilkmgiofimjaaGreatDoorPl
namespace Go.Proofs.YtoilkmgiofimjaaGreatDoor
open Go
set_option maxHeartbeats 4000000
set_option linter.unusedVariables false
set_option linter.unusedSimpArgs false
set_option linter.defProp false
set_option maxRecDepth 100000
theorem Vp{n b:Nat}(h:n≤2000000)(hb:b≤1024):rm n b=true:=by
 unfold rm;have h1:n*b≤2000000*1024:=Nat.mul_le_mul h hb;have h3:n*b≤140737488355328:=by omega
 simp only[h3,decide_true]
theorem Wv(a:List (List UInt8))(h:a.length≤1048576):Cn a a=some true:=by
 have hr:=rL a (step:=ZS a a) (λi (_:Unit)=>(i:Int)) (λ_ _ _=>some (.inl ())) (λ_=>some (.brk ())) ()
  (λi s hi=>by simp only[ZS,Qy hi,Qs hi,QC hi,QM (show(i:Int)<9223372036854775807 by omega),Qc,Qb,Qn,Qa,Qh,Option.map_some,Sum.map_inl,decide_true])
  (λs=>by simp only[ZS,QP (Qg _),Qb,Option.map_some])
 rw[W3 (g:=λ_ _=>()) a 0 () (λ_ _ _ _=>rfl)]at hr
 unfold Cn;simp only[decide_true,Qh,Qb];rw[show((0:Int))=((0:Nat):Int)from rfl,hr];rfl
def smL{α:Type}(ok:α→Prop)(l:List α):Prop:=l.length≤1048576∧∀x∈l,ok x
def Gf(x:Secret):Prop:=x.Marks.length≤1048576
def Qu(x:House):Prop:=x.Finds.length≤1048576∧smL Gf x.Secrets∧x.Slots.length≤1048576∧x.Claims.length≤1048576∧x.Trials.length≤1048576∧x.Chain.length≤1048576∧x.Book.length≤1048576
end Go.Proofs.YtoilkmgiofimjaaGreatDoor
