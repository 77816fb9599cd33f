/- The law FnExactFormatHits of typed values. No condition. -/
import Derived.Test.YtaajilepbclmfaaDoorPyFmt
namespace Go.Proofs.YtaajilepbclmfaaDoor
open Go
set_option linter.unusedVariables false
set_option linter.unusedSimpArgs false
theorem pure_FnExactFormatHits (aL : List Hit) (h1 : (okL okHit) aL) : laws_FnExactFormatHits aL = some true := by
  unfold laws_FnExactFormatHits laws_szHitS
  rw [ln_eq]
  cases hs : decide (w64 (1048576 - (aL.length : Int)) < 0) with
  | true => simp
  | false =>
    have hl := sz_small (by have := h1.1; omega) hs
    obtain ⟨c, hc1, hc2⟩ := formatHits aL hl (fun x hx => h1.2 x hx)
    simp [hs, toHitS_id aL hl, hc1, hc2, eqHitS_refl aL hl]
end Go.Proofs.YtaajilepbclmfaaDoor
