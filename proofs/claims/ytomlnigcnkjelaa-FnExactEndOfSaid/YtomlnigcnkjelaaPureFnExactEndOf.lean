/- The law FnExactEndOf of typed values. No condition. -/
import Derived.Test.YtomlnigcnkjelaaPyHands
namespace Go.Proofs.Ytomlnigcnkjelaa
open Go
set_option linter.unusedVariables false
set_option linter.unusedSimpArgs false
theorem pure_FnExactEndOf (aL : List Hand) (aThing : Int) (h1 : (okL okHand) aL) (h2 : i64 aThing) : laws_FnExactEndOf aL aThing = some true := by
  unfold laws_FnExactEndOf laws_szHandS
  rw [ln_eq]
  cases hs : decide (w64 (1048576 - (aL.length : Int)) < 0) with
  | true => simp
  | false =>
    have hl := sz_small (by have := h1.1; omega) hs
    obtain ⟨c, hc1, hc2⟩ := endOf aL aThing hl
    simp [hs, toHandS_id aL hl, hc1, hc2, eqHandS_refl aL hl]
end Go.Proofs.Ytomlnigcnkjelaa
