/- The law FnExactStepFind of typed values. No condition. -/
import Derived.Test.YtcdffihcfeajfaaGreatPyPut
import Derived.Test.YtcdffihcfeajfaaGreatPyMkH
namespace Go.Proofs.YtcdffihcfeajfaaGreat
open Go
set_option linter.unusedVariables false
set_option linter.unusedSimpArgs false
theorem pure_FnExactStepFind (aH : House) (a : Find) (a2 : List Mark) (a3 : Int) (h1 : okHouse aH) (h2 : okFind a) (h3 : (okL okMark) a2) (h4 : i64 a3) : laws_FnExactStepFind aH a a2 a3 = some true := by
  unfold laws_FnExactStepFind
  obtain ⟨r, e, hle, h | ⟨hp, hs⟩⟩ := szHouse_sm aH 1048576 h1 (by omega) (by omega)
  · subst h; rw [e]; rfl
  have hd : decide (r < 0) = false := decide_eq_false (by omega)
  obtain ⟨q, e2, hle2, h | ⟨hp2, hs2⟩⟩ := szMarkS_sm a2 r h3.1 hp hle
  · subst h; simp only [e, e2, hd, Option.bind_some, cond_false]; rfl
  have hd2 : decide (q < 0) = false := decide_eq_false (by omega)
  obtain ⟨g, g1, g2, hsm⟩ := stepFind aH a a2 a3 hs hs2
  obtain ⟨n1, k1, p1, _, p3, p4⟩ := mk_HouseE aH hs
  have hk1 : ¬ k1 < 0 := by simpa using p3
  obtain ⟨n3, k3, u1, _, u2, u3⟩ := mk_MarkS a2 k1 (by omega) (fun _ _ => trivial) (by omega) (by omega)
  have hk3 : decide (k3 < 0) = false := decide_eq_false (by omega)
  obtain ⟨n2, k2, q2, q3, hk2, _⟩ := mk_HouseE g.1 hsm
  simp only [e, e2, hd, hd2, toHouse_id aH hs, toFind_id, toMarkS_id a2 hs2, g1, g2, eqHouse_refl g.1 hsm, eqHouse_refl aH hs, eqMarkS_refl a2 hs2, p1, u1, hk3, q2, q3, hk2, Option.bind_some, cond_false, Bool.not_true, decide_true, Bool.or_self, Bool.or_false]
end Go.Proofs.YtcdffihcfeajfaaGreat
