import Derived.Test.YtcdffihcfeajfaaGreatPyStep1
namespace Go.Proofs.YtcdffihcfeajfaaGreat
open Go
set_option linter.unusedVariables false
set_option linter.unusedSimpArgs false
theorem QhR (h out : House) (done : List Bool) (hm : QZ h) (ho : QZ out) (hd : done.length ≤ 1048576) : Qap h out done = some (QdF h out (done.all id)) := by
 unfold Qap QdF
 simp only [(Qcc h hm).2, (Qcc out ho).2, Qgt h hm, Qu8 done hd, Option.bind_some]
 cases done.all id <;> cases QaH h <;> cases QaH out <;> rfl
end Go.Proofs.YtcdffihcfeajfaaGreat
