import Derived.Test.YtcdffihcfeajfaaGreatFam
namespace Go.Proofs.YtcdffihcfeajfaaGreat
open Go
set_option linter.unusedVariables false
set_option linter.unusedSimpArgs false
def Z8 (l : List Find) (id : Int) : Int := match l.findIdx? (fun x => decide (x.Thing.Id = id)) with | some i => (i : Int) | none => -1
theorem Qbg (l : List Find) (id : Int) (hl : l.length ≤ 1048576) : Xi l id = some (Z8 l id) ∧ Xf l id = some (Z8 l id) := by
 have hs := ZN l (fun x => decide (x.Thing.Id = id)) (fun i => (i : Int)) (step := XD l id)
  (fun i hi => by
   simp only [XD, Qu hi, Qg hi, Qz hi, QP (show (i : Int) < 9223372036854775807 by omega), cond_true, Qa]
   cases decide (l[i].Thing.Id = id) <;> rfl)
  (by simp only [XD, Qx (Nat.le_refl _), cond_false])
 have hi := ZN l (fun x => decide (x.Thing.Id = id)) (fun i => (i : Int)) (step := Qw l id (ln l))
  (fun i hi => by
   simp only [Qw, Qat, Option.bind_some, Qu hi, Qg hi, Qz hi, QP (show (i : Int) < 9223372036854775807 by omega), cond_true, Qa]
   cases decide (l[i].Thing.Id = id) <;> rfl)
  (by simp only [Qw, Qx (Nat.le_refl _), cond_false])
 unfold Xi Xf Q5 Z8
 rw [hs, hi]
 cases l.findIdx? (fun x => decide (x.Thing.Id = id)) <;> exact ⟨rfl, rfl⟩
end Go.Proofs.YtcdffihcfeajfaaGreat
