import Derived.Test.YtcdffihcfeajfaaGreatPySlot
namespace Go.Proofs.YtcdffihcfeajfaaGreat
open Go
set_option linter.unusedVariables false
set_option linter.unusedSimpArgs false
theorem Qw8 (l : List Hand) (x : Hand) (hl : l.length ≤ 1048576) : ∃ r, Qbp l x = some r ∧ Qb1 l x = some r ∧ r.1.length ≤ 1048576 := by
 have hrm : rm (0 + l.length) 40 = true := V9 (by omega) (by omega)
 have hrm1 : rm (l.length + 1) 40 = true := V9 (by omega) (by omega)
 unfold Qbp Qb1 Vl
 have tail : ∀ s : Int, ∃ r, ((XX s x).bind fun r => nd (rm (0 + l.length) 40) <| nd (rm (l.length + 1) 40) <| (Vr (l ++ [(⟨x.Thing, x.Holder, x.Who, x.At, r⟩ : Hand)])).bind fun r2 => (bif (!r2) then nd (rm (0 + l.length) 40) <| some (l, false) else some (l ++ [(⟨x.Thing, x.Holder, x.Who, x.At, r⟩ : Hand)], true))) = some r ∧
   ((Xb s x).bind fun r => (nd (rm (0 + l.length) 40) <| some l).bind fun r2 => nd (rm (r2.length + 1) 40) <| (Vp (r2 ++ [(⟨x.Thing, x.Holder, x.Who, x.At, r⟩ : Hand)])).bind fun r3 => (bif (!r3) then (nd (rm (0 + l.length) 40) <| some l).bind fun r4 => some (r4, false) else some (r2 ++ [(⟨x.Thing, x.Holder, x.Who, x.At, r⟩ : Hand)], true))) = some r ∧ r.1.length ≤ 1048576 := by
  intro s
  obtain ⟨c, c1, c2⟩ := Qke s x
  obtain ⟨b, b1, b2, b3⟩ := QnT (l ++ [(⟨x.Thing, x.Holder, x.Who, x.At, c⟩ : Hand)])
  simp only [c1, c2, Option.bind_some, hrm, hrm1, Qa, b1, b2]
  cases b with
  | false => exact ⟨(l, false), rfl, rfl, hl⟩
  | true => exact ⟨_, rfl, rfl, by have := (b3 rfl).1; show (l ++ _).length ≤ _; omega⟩
 by_cases h0 : 0 < l.length
 ·simp only [show decide (0 < ln l) = true from decide_eq_true (by rw [Vg]; omega), cond_true, show w64 (ln l - 1) = ((l.length - 1 : Nat) : Int) from by rw [Vg, Vd] <;> omega, Qg (show l.length - 1 < l.length by omega), Qa]
  exact tail _
 ·simp only [show decide (0 < ln l) = false from decide_eq_false (by rw [Vg]; omega), cond_false]
  exact tail 0
end Go.Proofs.YtcdffihcfeajfaaGreat
