/- The law FnExactFormatClaims of typed values. No condition. -/
import Derived.Test.YtaajilepbclmfaaDoorPyFmt2
namespace Go.Proofs.YtaajilepbclmfaaDoor
open Go
set_option linter.unusedVariables false
set_option linter.unusedSimpArgs false
theorem pure_FnExactFormatClaims (aL : List Claim) (h1 : (okL okClaim) aL) : laws_FnExactFormatClaims aL = some true := by
  unfold laws_FnExactFormatClaims laws_szClaimS
  rw [ln_eq]
  cases hs : decide (w64 (1048576 - (aL.length : Int)) < 0) with
  | true => simp
  | false =>
    have hl := sz_small (by have := h1.1; omega) hs
    obtain ⟨c, hc1, hc2⟩ := formatClaims aL hl (fun x hx => ⟨(h1.2 x hx).1, (h1.2 x hx).2.1, (h1.2 x hx).2.2.1⟩)
    simp [hs, toClaimS_id aL hl, hc1, hc2, eqClaimS_refl aL hl]
end Go.Proofs.YtaajilepbclmfaaDoor
