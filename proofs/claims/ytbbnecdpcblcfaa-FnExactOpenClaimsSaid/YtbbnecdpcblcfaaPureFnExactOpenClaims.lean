/- The law FnExactOpenClaims of typed values. No condition. -/
import Derived.Test.YtbbnecdpcblcfaaPyCount
namespace Go.Proofs.Ytbbnecdpcblcfaa
open Go
set_option linter.unusedVariables false
set_option linter.unusedSimpArgs false
theorem pure_FnExactOpenClaims (aL : List Claim) (h1 : (okL okClaim) aL) : laws_FnExactOpenClaims aL = some true := by
  unfold laws_FnExactOpenClaims laws_szClaimS
  rw [ln_eq]
  cases hs : decide (w64 (1048576 - (aL.length : Int)) < 0) with
  | true => simp
  | false =>
    have hl := sz_small (by have := h1.1; omega) hs
    obtain ⟨c, hc1, hc2⟩ := openClaims aL hl
    simp [hs, toClaimS_id aL hl, hc1, hc2, eqClaimS_refl aL hl]
end Go.Proofs.Ytbbnecdpcblcfaa
