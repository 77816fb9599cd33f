/- The law FnExactStoryOf of typed values. No condition. -/
import Derived.Test.YtaajilepbclmfaaDoorPyFmt2
namespace Go.Proofs.YtaajilepbclmfaaDoor
open Go
set_option linter.unusedVariables false
set_option linter.unusedSimpArgs false
theorem pure_FnExactStoryOf (aL : List Hand) (aThing : Int) (h1 : (okL okHand) aL) (h2 : i64 aThing) : laws_FnExactStoryOf aL aThing = some true := by
  unfold laws_FnExactStoryOf laws_szHandS
  rw [ln_eq]
  cases hs : decide (w64 (1048576 - (aL.length : Int)) < 0) with
  | true => simp
  | false =>
    have hl := sz_small (by have := h1.1; omega) hs
    obtain ⟨c, hc1, hc2⟩ := storyOf aL aThing hl (fun x hx => ⟨(h1.2 x hx).2.2.1, (h1.2 x hx).2.2.2.1⟩)
    simp [hs, toHandS_id aL hl, hc1, hc2, eqHandS_refl aL hl]
end Go.Proofs.YtaajilepbclmfaaDoor
