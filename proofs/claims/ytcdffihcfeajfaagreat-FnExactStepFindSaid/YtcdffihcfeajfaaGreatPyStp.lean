/- What is behind a step of the program. The program's answers are the reference's. No condition but the length. -/
import Derived.Test.YtcdffihcfeajfaaGreatPyStep1
namespace Go.Proofs.YtcdffihcfeajfaaGreat
open Go
set_option linter.unusedVariables false
set_option linter.unusedSimpArgs false
theorem stepped (h out : House) (done : List Bool) (hm : sm_House h) (ho : sm_House out) (hd : done.length ≤ 1048576) : impl_stepped h out done = some (stepR h out (done.all id)) := by
  unfold impl_stepped stepR
  simp only [(houseB_eq h hm).2, (houseB_eq out ho).2, cloneHouse h hm, anyFalse done hd, Option.bind_some]
  cases done.all id <;> cases houseB h <;> cases houseB out <;> rfl
end Go.Proofs.YtcdffihcfeajfaaGreat
