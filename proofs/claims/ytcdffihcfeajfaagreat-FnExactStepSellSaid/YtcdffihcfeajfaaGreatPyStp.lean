import Derived.Test.YtcdffihcfeajfaaGreatPyStep1
namespace Go.Proofs.YtcdffihcfeajfaaGreat
open Go
set_option linter.unusedVariables false
set_option linter.unusedSimpArgs false
theorem Qhr (h out : House) (done : List Bool) (hm : QZ h) (ho : QZ out) (hd : done.length ≤ 1048576) : Qav h out done = some (QdJ h out (done.all id)) := by
 unfold Qav QdJ
 simp only [(Qcd h hm).2, (Qcd out ho).2, Qgp h hm, Qtj done hd, Option.bind_some]
 cases done.all id <;> cases QaI h <;> cases QaI out <;> rfl
end Go.Proofs.YtcdffihcfeajfaaGreat
