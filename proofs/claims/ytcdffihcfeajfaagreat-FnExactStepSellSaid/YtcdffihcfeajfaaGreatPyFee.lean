import Derived.Test.YtcdffihcfeajfaaGreatPyStep1
namespace Go.Proofs.YtcdffihcfeajfaaGreat
open Go
set_option linter.unusedVariables false
set_option linter.unusedSimpArgs false
theorem Qud (l : List Entry) (x : Entry) (hl : l.length ≤ 1048576) : ∃ r, ZZ l x = some r ∧ JQ l x = some r ∧ r.1.length ≤ 1048576 := by
 have hrm : rm (0 + l.length) 32 = true := V9 (by omega) (by omega)
 have hrm1 : rm (l.length + 1) 32 = true := V9 (by omega) (by omega)
 obtain ⟨b, b1, b2, b3⟩ := Qi4 (l ++ [x]) (by simp; omega)
 unfold ZZ JQ VB
 simp only [hrm, hrm1, Qa, Option.bind_some, b1, b2]
 cases b with
 | false => exact ⟨(l, false), rfl, rfl, hl⟩
 | true => exact ⟨_, rfl, rfl, by have := (b3 rfl).1; show (l ++ _).length ≤ _; omega⟩
end Go.Proofs.YtcdffihcfeajfaaGreat
