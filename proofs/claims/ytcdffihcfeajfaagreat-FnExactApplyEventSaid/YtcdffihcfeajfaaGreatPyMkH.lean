import Derived.Test.YtcdffihcfeajfaaGreatMk
import Derived.Test.YtcdffihcfeajfaaGreatFam
namespace Go.Proofs.YtcdffihcfeajfaaGreat
open Go
set_option linter.unusedVariables false
set_option linter.unusedSimpArgs false
theorem Qr4 {a b : House} {k k' : Int} (h : Xj a k = some (b, k')) : b.No = a.No ∧ b.Now = a.Now := by
 simp only [Xj, Option.bind_eq_some_iff, Option.some.injEq, Prod.mk.injEq] at h
 obtain ⟨r1, _, r2, _, r3, _, r4, _, r5, _, r6, _, r7, _, h, _⟩ := h
 subst h
 exact ⟨rfl, rfl⟩
theorem QpX (h : House) (hm : Qq h) : ∃ n k, Xj h 1 = some (n, k) ∧ Zc (⟨h.No, n.Finds, n.Secrets, n.Slots, n.Claims, n.Trials, n.Chain, n.Book, h.Now⟩ : House) 1 = some k ∧ decide (k < 0) = false ∧ k ≤ 8796158033921 := by
 obtain ⟨s1, s2, s3, s4, s5, s6, s7⟩ := hm
 obtain ⟨n, k, q2, q3, u2, v2⟩ := Qx6 h 1 (by omega) (by have := s2.1; omega) (fun x hx => by have := s2.2 x hx; unfold Xd at this; unfold Qgk; omega) (by omega) (by omega) (by omega) (by omega) (by omega) (by omega) (by omega)
 obtain ⟨h1, h2⟩ := Qr4 q2
 exact ⟨n, k, q2, by rw [← h1, ← h2]; exact q3, decide_eq_false (by omega), by omega⟩
end Go.Proofs.YtcdffihcfeajfaaGreat
