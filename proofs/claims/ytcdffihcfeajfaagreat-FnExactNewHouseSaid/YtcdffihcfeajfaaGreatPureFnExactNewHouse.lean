/- The law FnExactNewHouse of typed values. No condition. -/
import Derived.Test.YtcdffihcfeajfaaGreatPyNew
import Derived.Test.YtcdffihcfeajfaaGreatPyMkH
namespace Go.Proofs.YtcdffihcfeajfaaGreat
open Go
set_option linter.unusedVariables false
set_option linter.unusedSimpArgs false
theorem pure_FnExactNewHouse (aNo : Int) (a : List Slot) (h1 : i64 aNo) (h2 : (okL okSlot) a) : laws_FnExactNewHouse aNo a = some true := by
  unfold laws_FnExactNewHouse
  obtain ⟨r, e, hle, h | ⟨hp, hs⟩⟩ := szSlotS_sm a 1048576 h2.1 (by omega) (by omega)
  · subst h; rw [e]; rfl
  have hd : decide (r < 0) = false := decide_eq_false (by omega)
  obtain ⟨g, g1, g2, hsm⟩ := newHouse aNo a hs
  have hq := eqHouse_refl g.1 hsm
  obtain ⟨n1, k1, q1, _, u1, v1⟩ := mk_SlotS a 1 (by omega) (fun _ _ => trivial) (by omega) (by omega)
  obtain ⟨n2, k2, q2, q3, hk2, _⟩ := mk_HouseE g.1 hsm
  have hk1 : decide (k1 < 0) = false := decide_eq_false (by omega)
  simp only [e, hd, toSlotS_id a hs, g1, g2, hq, eqSlotS_refl a hs, q1, q2, q3, hk1, hk2, Option.bind_some, cond_false, Bool.not_true, decide_true, Bool.or_self, Bool.or_false]
end Go.Proofs.YtcdffihcfeajfaaGreat
