import Derived.Test.YtcdffihcfeajfaaGreatPz4
import Derived.Test.YtcdffihcfeajfaaGreatPyMkH
namespace Go.Proofs.YtcdffihcfeajfaaGreat
open Go
set_option linter.unusedVariables false
set_option linter.unusedSimpArgs false
theorem QgR (aH : House) (a : List Event) (h1 : Qni aH) (h2 : (okL Qh2) a) : Zk aH a = some true := by
 unfold Zk
 obtain ⟨r, e, hle, h | ⟨hp, hs⟩⟩ := QtM aH 1048576 h1 (by omega) (by omega)
 ·subst h; rw [e]; rfl
 have hd : decide (r < 0) = false := decide_eq_false (by omega)
 obtain ⟨q, e2, hle2, h | ⟨hp2, hs2⟩⟩ := Qst a r h2 hp hle
 ·subst h; simp only [e, e2, hd, Option.bind_some, cond_false]; rfl
 have hd2 : decide (q < 0) = false := decide_eq_false (by omega)
 obtain ⟨g, g1, g2, hsm⟩ := QvP aH a hs hs2.1 hs2.2
 obtain ⟨n1, k1, p1, _, p3, p4⟩ := Qqo aH hs
 have hk1 : ¬ k1 < 0 := by simpa using p3
 obtain ⟨n3, k3, u1, u2, u3⟩ := QvL a k1 (Nat.le_trans hs2.1 (by omega)) (fun x hx => ⟨Nat.le_trans (hs2.2 x hx).1 (by omega), Nat.le_trans (hs2.2 x hx).2 (by omega)⟩) (by omega) (by omega)
 have hk3 : decide (k3 < 0) = false := decide_eq_false (by omega)
 obtain ⟨n2, k2, q2, q3, hk2, _⟩ := Qqo g hsm
 simp only [e, e2, hd, hd2, Qut aH hs, Qsd a hs2, g1, g2, Qjz g hsm, Qjz aH hs, QpL a hs2, p1, u1, hk3, q2, q3, hk2, Option.bind_some, cond_false, Bool.not_true, decide_true, Bool.or_self, Bool.or_false]
end Go.Proofs.YtcdffihcfeajfaaGreat
