import Derived.Test.YtcdffihcfeajfaaGreatFam
namespace Go.Proofs.YtcdffihcfeajfaaGreat
open Go
set_option linter.unusedVariables false
set_option linter.unusedSimpArgs false
def Qag (l : List Find) (id : Int) : Int := match l.findIdx? (fun x => decide (x.Thing.Id = id)) with | some i => (i : Int) | none => -1
theorem Qbk (l : List Find) (id : Int) (hl : l.length ≤ 1048576) : Xh l id = some (Qag l id) ∧ Xg l id = some (Qag l id) := by
 have hs := ZA l (fun x => decide (x.Thing.Id = id)) (fun i => (i : Int)) (step := Xo l id)
  (fun i hi => by
   simp only [Xo, Qu hi, Qh hi, Qz hi, QS (show (i : Int) < 9223372036854775807 by omega), cond_true, Qa]
   cases decide (l[i].Thing.Id = id) <;> rfl)
  (by simp only [Xo, Qx (Nat.le_refl _), cond_false])
 have hi := ZA l (fun x => decide (x.Thing.Id = id)) (fun i => (i : Int)) (step := Qw l id (ln l))
  (fun i hi => by
   simp only [Qw, QaA, Option.bind_some, Qu hi, Qh hi, Qz hi, QS (show (i : Int) < 9223372036854775807 by omega), cond_true, Qa]
   cases decide (l[i].Thing.Id = id) <;> rfl)
  (by simp only [Qw, Qx (Nat.le_refl _), cond_false])
 unfold Xh Xg Q5 Qag
 rw [hs, hi]
 cases l.findIdx? (fun x => decide (x.Thing.Id = id)) <;> exact ⟨rfl, rfl⟩
end Go.Proofs.YtcdffihcfeajfaaGreat
