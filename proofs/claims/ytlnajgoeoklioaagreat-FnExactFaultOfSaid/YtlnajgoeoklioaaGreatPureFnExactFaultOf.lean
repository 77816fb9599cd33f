/- The law FnExactFaultOf of typed values. No condition. -/
import Derived.Test.YtlnajgoeoklioaaGreatPyFault
namespace Go.Proofs.YtlnajgoeoklioaaGreat
open Go
set_option linter.unusedVariables false
set_option linter.unusedSimpArgs false
theorem pure_FnExactFaultOf (aH : House) (h1 : okHouse aH) : laws_FnExactFaultOf aH = some true := by
  unfold laws_FnExactFaultOf
  obtain ⟨r, e, hle, h | ⟨hp, hs⟩⟩ := szHouse_sm aH 1048576 h1 (by omega) (by omega)
  · subst h; rw [e]; rfl
  · obtain ⟨c, hc1, hc2⟩ := faultOf aH hs
    have hd : decide (r < 0) = false := decide_eq_false (by omega)
    simp only [e, hd, toHouse_id aH hs, hc1, hc2, eqHouse_refl aH hs, Option.bind_some, cond_false, decide_true, Bool.not_true]
end Go.Proofs.YtlnajgoeoklioaaGreat
