/- The law FnExactEventName of typed values. No condition. -/
import Derived.Test.YtbbnecdpcblcfaaFn
namespace Go.Proofs.Ytbbnecdpcblcfaa
open Go
set_option linter.unusedVariables false
set_option linter.unusedSimpArgs false
theorem pure_FnExactEventName (aKind : Int) (h1 : i64 aKind) : laws_FnExactEventName aKind = some true := by
  by_cases hk : 1 ≤ aKind ∧ aKind ≤ 7
  · obtain ⟨h2, h3⟩ := hk
    have : aKind = 1 ∨ aKind = 2 ∨ aKind = 3 ∨ aKind = 4 ∨ aKind = 5 ∨ aKind = 6 ∨ aKind = 7 := by omega
    rcases this with rfl | rfl | rfl | rfl | rfl | rfl | rfl <;> rfl
  · have e1 : spec_EventName aKind = some [] := by
      unfold spec_EventName spec_l1In
      by_cases h2 : 1 ≤ aKind
      · have h3 : ¬ aKind ≤ 7 := by omega
        simp [h2, h3]
      · simp [h2]
    have e2 : impl_EventName aKind = some [] := by
      unfold impl_EventName
      by_cases h2 : aKind < 1
      · simp [h2]
      · have h3 : 7 < aKind := by omega
        simp [h2, h3]
    unfold laws_FnExactEventName
    rw [e1, e2]; rfl
end Go.Proofs.Ytbbnecdpcblcfaa
