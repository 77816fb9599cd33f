/- The law FnExactBusiestPlace of typed values. No condition. -/
import Derived.Test.YtomlnigcnkjelaaPyFinds
namespace Go.Proofs.Ytomlnigcnkjelaa
open Go
set_option linter.unusedVariables false
set_option linter.unusedSimpArgs false
theorem pure_FnExactBusiestPlace (aL : List Find) (h1 : (okL okFind) aL) : laws_FnExactBusiestPlace aL = some true := by
  unfold laws_FnExactBusiestPlace laws_szFindS
  rw [ln_eq]
  cases hs : decide (w64 (1048576 - (aL.length : Int)) < 0) with
  | true => simp
  | false =>
    have hl := sz_small (by have := h1.1; omega) hs
    obtain ⟨c, hc1, hc2⟩ := busiestPlace aL hl
    simp [hs, toFindS_id aL hl, hc1, hc2, eqFindS_refl aL hl]
end Go.Proofs.Ytomlnigcnkjelaa
