/- The law FnExactTrialOf of typed values. No condition. -/
import Derived.Test.YtcpelionmmnogaaPyHouse
namespace Go.Proofs.Ytcpelionmmnogaa
open Go
set_option linter.unusedVariables false
set_option linter.unusedSimpArgs false
theorem pure_FnExactTrialOf (aH : House) (aClaim : Int) (h1 : okHouse aH) (h2 : i64 aClaim) : laws_FnExactTrialOf aH aClaim = some true := by
  unfold laws_FnExactTrialOf
  obtain ⟨r, e, hle, h | ⟨hp, hs⟩⟩ := szHouse_sm aH 1048576 h1 (by omega) (by omega)
  · subst h; rw [e]; rfl
  · have hc : aH.Trials.length ≤ 1048576 := by have := hs; unfold sm_House at this; exact this.2.2.2.2.1
    obtain ⟨c, hc1, hc2⟩ := trialOf aH aClaim hc
    have hd : decide (r < 0) = false := decide_eq_false (by omega)
    simp only [e, hd, toHouse_id aH hs, hc1, hc2, eqHouse_refl aH hs, eqTrial_refl, Option.bind_some, cond_false, decide_true, Bool.not_true, Bool.or_self]
end Go.Proofs.Ytcpelionmmnogaa
