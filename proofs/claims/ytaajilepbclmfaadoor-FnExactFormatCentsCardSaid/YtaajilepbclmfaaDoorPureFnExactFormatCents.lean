/- The law FnExactFormatCents of typed values. No condition. -/
import Derived.Test.YtaajilepbclmfaaDoorPyFmt
namespace Go.Proofs.YtaajilepbclmfaaDoor
open Go
set_option linter.unusedVariables false
set_option linter.unusedSimpArgs false
theorem pure_FnExactFormatCents (aCents : Int) (h1 : i64 aCents) : laws_FnExactFormatCents aCents = some true := by
  obtain ⟨r, r1, r2⟩ := formatCents aCents
  unfold laws_FnExactFormatCents
  simp [r1, r2]
end Go.Proofs.YtaajilepbclmfaaDoor
