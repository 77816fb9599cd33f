/- The law FnExactEqualHouses of typed values. No condition. -/
import Derived.Test.YtcpelionmmnogaaPyEquals
namespace Go.Proofs.Ytcpelionmmnogaa
open Go
set_option linter.unusedVariables false
set_option linter.unusedSimpArgs false
theorem pure_FnExactEqualHouses (aA : House) (aB : House) (h1 : okHouse aA) (h2 : okHouse aB) : laws_FnExactEqualHouses aA aB = some true := by
  unfold laws_FnExactEqualHouses
  obtain ⟨r, e, hle, h | ⟨hp, hs⟩⟩ := szHouse_sm aA 1048576 h1 (by omega) (by omega)
  · subst h; rw [e]; rfl
  · have hd : decide (r < 0) = false := decide_eq_false (by omega)
    simp only [e, hd, Option.bind_some, cond_false]
    obtain ⟨r2, e2, hle2, h | ⟨hp2, hs2⟩⟩ := szHouse_sm aB r h2 hp (by omega)
    · subst h; rw [e2]; rfl
    · have hd2 : decide (r2 < 0) = false := decide_eq_false (by omega)
      obtain ⟨c, hc1, hc2⟩ := equalHouses aA aB hs
      simp only [e2, hd2, toHouse_id aA hs, toHouse_id aB hs2, hc1, hc2, eqHouse_refl aA hs, eqHouse_refl aB hs2, Option.bind_some, cond_false, decide_true, Bool.not_true]
end Go.Proofs.Ytcpelionmmnogaa
