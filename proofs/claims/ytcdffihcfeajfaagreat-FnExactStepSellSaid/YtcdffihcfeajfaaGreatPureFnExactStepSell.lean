import Derived.Test.YtcdffihcfeajfaaGreatPySell2
import Derived.Test.YtcdffihcfeajfaaGreatPyMkH
namespace Go.Proofs.YtcdffihcfeajfaaGreat
open Go
set_option linter.unusedVariables false
set_option linter.unusedSimpArgs false
theorem QeH (aH : House) (a : Int) (a2 : List Bid) (h1 : QjS aH) (h2 : i64 a) (h3 : (okL QrC) a2) : JL aH a a2 = some true := by
 unfold JL
 obtain ⟨r, e, hle, h | ⟨hp, hs⟩⟩ := Qqt aH 1048576 h1 (by omega) (by omega)
 ·subst h; rw [e]; rfl
 have hd : decide (r < 0) = false := decide_eq_false (by omega)
 obtain ⟨q, e2, hle2, h | ⟨hp2, hs2⟩⟩ := Qr7 a2 r h3.1 hp hle
 ·subst h; simp only [e, e2, hd, Option.bind_some, cond_false]; rfl
 have hd2 : decide (q < 0) = false := decide_eq_false (by omega)
 obtain ⟨g, g1, g2, hsm⟩ := QuP aH a a2 hs hs2
 obtain ⟨n1, k1, p1, _, p3, p4⟩ := QmD aH hs
 have hk1 : ¬ k1 < 0 := by simpa using p3
 obtain ⟨n3, k3, u1, u2, u3⟩ := QwZ a2 k1 (by omega) (fun _ _ => trivial) (by omega) (by omega)
 have hk3 : decide (k3 < 0) = false := decide_eq_false (by omega)
 obtain ⟨n2, k2, q2, q3, hk2, _⟩ := QmD g.1 hsm
 simp only [e, e2, hd, hd2, QqG aH hs, QsV a2 hs2, g1, g2, Qhj g.1 hsm, Qhj aH hs, QoV a2 hs2, p1, u1, hk3, q2, q3, hk2, Option.bind_some, cond_false, Bool.not_true, decide_true, Bool.or_self, Bool.or_false]
end Go.Proofs.YtcdffihcfeajfaaGreat
