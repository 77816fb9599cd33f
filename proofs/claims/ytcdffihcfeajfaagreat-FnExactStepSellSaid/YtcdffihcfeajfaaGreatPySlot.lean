import Derived.Test.YtcdffihcfeajfaaGreatPyClm
namespace Go.Proofs.YtcdffihcfeajfaaGreat
open Go
set_option linter.unusedVariables false
set_option linter.unusedSimpArgs false
theorem QxX {n : Nat} (f : Nat → Int) (h : ∀ i, i < n → 0 < i → f (i - 1) < f i) : ∀ j i, i < j → j < n → f i < f j := by
 intro j
 induction j with
 | zero => intro i h1 _; omega
 | succ j ih =>
  intro i h1 h2
  have h3 := h (j + 1) h2 (by omega)
  rw [show j + 1 - 1 = j by omega] at h3
  by_cases hij : i = j
  ·subst hij; exact h3
  ·have := ih i (by omega) (by omega); omega
theorem Qk4 (l : List Slot) (h : ∀ i (hi : i < l.length) (h0 : 0 < i), (l[i - 1]'(by omega)).Id < l[i].Id) (i j : Nat) (hi : i < l.length) (hj : j < l.length) (he : l[i].Id = l[j].Id) : i = j := by
 have hu := QxX (n := l.length) (fun i => (gt l (i : Int)).Id) (fun i h1 h2 => by
  show (gt l ((i - 1 : Nat) : Int)).Id < (gt l (i : Int)).Id
  rw [Qz h1, Qz (show i - 1 < l.length by omega)]; exact h i h1 h2)
 by_cases h1 : i < j
 ·have := hu j i h1 hj
  simp only [Qz hi, Qz hj] at this; omega
 ·by_cases h2 : j < i
  ·have := hu i j h2 hi
   simp only [Qz hi, Qz hj] at this; omega
  ·omega
theorem QvN (l : List Slot) (t : Int) (hl : l.length ≤ 1048576) : Zj l t = some (bif decide (t = 0) || decide (Qc4 l t < 0) then 0 else (gt l (Qc4 l t)).Id) := by
 have hr := ZN l (fun x => !decide (t = 0) && decide (x.Thing = t)) (fun i => (gt l (i : Int)).Id) (step := VJ l t)
  (fun i hi => by
   simp only [VJ, Qu hi, Qg hi, Qz hi, QP (show (i : Int) < 9223372036854775807 by omega), cond_true, Qa]
   cases decide (t = 0) <;> cases decide (l[i].Thing = t) <;> rfl)
  (by simp only [VJ, Qx (Nat.le_refl _), cond_false])
 unfold Zj Qc4
 rw [hr]
 cases decide (t = 0) with
 | true =>
  have : l.findIdx? (fun x => !true && decide (x.Thing = t)) = none := by rw [List.findIdx?_eq_none_iff]; intro x _; rfl
  rw [this]; rfl
 | false =>
  have e : (fun x : Slot => !false && decide (x.Thing = t)) = (fun x : Slot => decide (x.Thing = t)) := by funext x; simp
  rw [e]
  cases l.findIdx? (fun x => decide (x.Thing = t)) with
  | none => rfl
  | some i =>
   simp only [Option.bind_some, evO, Bool.false_or, decide_eq_false (show ¬ (i : Int) < 0 by omega), cond_false]
def Qd2 (l : List Slot) (t : Int) : Bool := !(decide (t = 0) || decide (Qc4 l t < 0))
theorem Qpz (l : List Slot) (t : Int) (hl : l.length ≤ 1048576) : ∃ c, Xd l t = some c ∧ decide (c < 0) = !Qd2 l t := by
 rw [Qht l t hl]
 unfold Qd2
 cases decide (t = 0) with
 | true => exact ⟨-1, rfl, rfl⟩
 | false => exact ⟨Qc4 l t, rfl, by simp⟩
end Go.Proofs.YtcdffihcfeajfaaGreat
