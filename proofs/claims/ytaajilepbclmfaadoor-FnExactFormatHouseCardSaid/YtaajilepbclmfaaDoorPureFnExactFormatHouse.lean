/- The law FnExactFormatHouse of typed values. No condition. -/
import Derived.Test.YtaajilepbclmfaaDoorPyFmt
namespace Go.Proofs.YtaajilepbclmfaaDoor
open Go
set_option linter.unusedVariables false
set_option linter.unusedSimpArgs false
theorem pure_FnExactFormatHouse (aH : House) (h1 : okHouse aH) : laws_FnExactFormatHouse aH = some true := by
  unfold laws_FnExactFormatHouse
  obtain ⟨r, e, hle, h | ⟨hp, hs⟩⟩ := szHouse_sm aH 1048576 h1 (by omega) (by omega)
  · subst h; rw [e]; rfl
  · have hs' := hs
    unfold sm_House at hs'
    obtain ⟨m1, m2, m3, m4, m5, m6, m7⟩ := hs'
    obtain ⟨c, hc1, hc2⟩ := formatHouse aH h1.1 h1.2.2.2.2.2.2.2.2 m1 m4 m6 m7
    have hd : decide (r < 0) = false := decide_eq_false (by omega)
    simp only [e, hd, toHouse_id aH hs, hc1, hc2, eqHouse_refl aH hs, Option.bind_some, cond_false, decide_true, Bool.not_true]
end Go.Proofs.YtaajilepbclmfaaDoor
