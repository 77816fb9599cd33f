/- The law FnExactStayHours of typed values. No condition. -/
import Derived.Test.YtaajilepbclmfaaPyStay
namespace Go.Proofs.Ytaajilepbclmfaa
open Go
set_option linter.unusedVariables false
set_option linter.unusedSimpArgs false
theorem pure_FnExactStayHours (aL : List Hand) (aThing : Int) (aNow : Int) (h1 : (okL okHand) aL) (h2 : i64 aThing) (h3 : i64 aNow) : laws_FnExactStayHours aL aThing aNow = some true := by
  unfold laws_FnExactStayHours laws_szHandS
  rw [ln_eq]
  cases hs : decide (w64 (1048576 - (aL.length : Int)) < 0) with
  | true => simp
  | false =>
    have hl := sz_small (by have := h1.1; omega) hs
    obtain ⟨c, hc1, hc2⟩ := stayHours aL aThing aNow hl
    simp [hs, toHandS_id aL hl, hc1, hc2, eqHandS_refl aL hl]
end Go.Proofs.Ytaajilepbclmfaa
