/- The law FnExactFormatNumbers of typed values. No condition. -/
import Derived.Test.YtaajilepbclmfaaDoorPyFmt
namespace Go.Proofs.YtaajilepbclmfaaDoor
open Go
set_option linter.unusedVariables false
set_option linter.unusedSimpArgs false
theorem pure_FnExactFormatNumbers (aL : List Int) (h1 : (okL i64) aL) : laws_FnExactFormatNumbers aL = some true := by
  unfold laws_FnExactFormatNumbers
  by_cases hl : aL.length ≤ 1048576
  · obtain ⟨r, r1, r2⟩ := formatNumbers aL hl h1.2
    rw [decide_eq_false (show ¬ (1048576 : Int) < ln aL by rw [ln_eq]; omega)]
    simp [toIntS_id aL hl, r1, r2, eqIntS_refl aL hl]
  · rw [decide_eq_true (show (1048576 : Int) < ln aL by rw [ln_eq]; omega)]
    rfl
end Go.Proofs.YtaajilepbclmfaaDoor
