/- The law FnExactStepClaim of typed values. No condition. -/
import Derived.Test.YtcdffihcfeajfaaGreatPyClaim
import Derived.Test.YtcdffihcfeajfaaGreatPyMkH
namespace Go.Proofs.YtcdffihcfeajfaaGreat
open Go
set_option linter.unusedVariables false
set_option linter.unusedSimpArgs false
theorem pure_FnExactStepClaim (aH : House) (a : Int) (a2 : Int) (a3 : Int) (h1 : okHouse aH) (h2 : i64 a) (h3 : i64 a2) (h4 : i64 a3) : laws_FnExactStepClaim aH a a2 a3 = some true := by
  unfold laws_FnExactStepClaim
  obtain ⟨r, e, hle, h | ⟨hp, hs⟩⟩ := szHouse_sm aH 1048576 h1 (by omega) (by omega)
  · subst h; rw [e]; rfl
  have hd : decide (r < 0) = false := decide_eq_false (by omega)
  obtain ⟨g, g1, g2, hsm⟩ := stepClaim aH a a2 a3 hs
  obtain ⟨n1, k1, p1, _, p3, _⟩ := mk_HouseE aH hs
  obtain ⟨n2, k2, q2, q3, hk2, _⟩ := mk_HouseE g.1 hsm
  simp only [e, hd, toHouse_id aH hs, g1, g2, eqHouse_refl g.1 hsm, eqHouse_refl aH hs, p1, p3, q2, q3, hk2, Option.bind_some, cond_false, Bool.not_true, decide_true, Bool.or_self, Bool.or_false]
end Go.Proofs.YtcdffihcfeajfaaGreat
