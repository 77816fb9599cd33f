import Derived.Test.YtcdffihcfeajfaaGreatPz4
import Derived.Test.YtcdffihcfeajfaaGreatPyMkH
namespace Go.Proofs.YtcdffihcfeajfaaGreat
open Go
set_option linter.unusedVariables false
set_option linter.unusedSimpArgs false
theorem Qgg (aH : House) (a : Event) (h1 : QmV aH) (h2 : Qm1 a) : JG aH a = some true := by
 unfold JG
 obtain ⟨r, e, hle, h | ⟨hp, hs⟩⟩ := QtL aH 1048576 h1 (by omega) (by omega)
 ·subst h; rw [e]; rfl
 have hd : decide (r < 0) = false := decide_eq_false (by omega)
 obtain ⟨q, e2, hle2, h | ⟨hp2, hs2⟩⟩ := QtS a r h2 hp hle
 ·subst h; simp only [e, e2, hd, Option.bind_some, cond_false]; rfl
 have hd2 : decide (q < 0) = false := decide_eq_false (by omega)
 obtain ⟨g, g1, g2, hsm⟩ := QtZ aH a hs hs2
 obtain ⟨n1, k1, p1, _, p3, p4⟩ := QpX aH hs
 have hk1 : ¬ k1 < 0 := by simpa using p3
 obtain ⟨n3, k3, u1, u2, u3⟩ := QyU a k1 (Nat.le_trans hs2.1 (by omega)) (Nat.le_trans hs2.2 (by omega)) (by omega) (by omega)
 have hk3 : decide (k3 < 0) = false := decide_eq_false (by omega)
 obtain ⟨n2, k2, q2, q3, hk2, _⟩ := QpX g.1 hsm
 simp only [e, e2, hd, hd2, Qua aH hs, Qt2 a hs2, g1, g2, Qjp g.1 hsm, Qjp aH hs, Qqh a hs2, p1, u1, hk3, q2, q3, hk2, Option.bind_some, cond_false, Bool.not_true, decide_true, Bool.or_self, Bool.or_false]
end Go.Proofs.YtcdffihcfeajfaaGreat
