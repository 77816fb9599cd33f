/- Slots. The program's answers are the reference's. No condition but the length. -/
import Derived.Test.YtcdffihcfeajfaaGreatPyClm
namespace Go.Proofs.YtcdffihcfeajfaaGreat
open Go
set_option linter.unusedVariables false
set_option linter.unusedSimpArgs false
theorem up_lt {n : Nat} (f : Nat → Int) (h : ∀ i, i < n → 0 < i → f (i - 1) < f i) : ∀ j i, i < j → j < n → f i < f j := by
  intro j
  induction j with
  | zero => intro i h1 _; omega
  | succ j ih =>
    intro i h1 h2
    have h3 := h (j + 1) h2 (by omega)
    rw [show j + 1 - 1 = j by omega] at h3
    by_cases hij : i = j
    · subst hij; exact h3
    · have := ih i (by omega) (by omega); omega
theorem slots_uniq (l : List Slot) (h : ∀ i (hi : i < l.length) (h0 : 0 < i), (l[i - 1]'(by omega)).Id < l[i].Id) (i j : Nat) (hi : i < l.length) (hj : j < l.length) (he : l[i].Id = l[j].Id) : i = j := by
  have hu := up_lt (n := l.length) (fun i => (gt l (i : Int)).Id) (fun i h1 h2 => by
    show (gt l ((i - 1 : Nat) : Int)).Id < (gt l (i : Int)).Id
    rw [gt_n h1, gt_n (show i - 1 < l.length by omega)]; exact h i h1 h2)
  by_cases h1 : i < j
  · have := hu j i h1 hj
    simp only [gt_n hi, gt_n hj] at this; omega
  · by_cases h2 : j < i
    · have := hu i j h2 hi
      simp only [gt_n hi, gt_n hj] at this; omega
    · omega
theorem slotOfV (l : List Slot) (t : Int) (hl : l.length ≤ 1048576) : spec_SlotOf l t = some (bif decide (t = 0) || decide (slotIx l t < 0) then 0 else (gt l (slotIx l t)).Id) := by
  have hr := run_find l (fun x => !decide (t = 0) && decide (x.Thing = t)) (fun i => (gt l (i : Int)).Id) (step := spec_SlotOf_l2 l t)
    (fun i hi => by
      simp only [spec_SlotOf_l2, lt_ln hi, inb_n hi, gt_n hi, w64_n (show (i : Int) < 9223372036854775807 by omega), cond_true, need_true]
      cases decide (t = 0) <;> cases decide (l[i].Thing = t) <;> rfl)
    (by simp only [spec_SlotOf_l2, ge_ln (Nat.le_refl _), cond_false])
  unfold spec_SlotOf slotIx
  rw [hr]
  cases decide (t = 0) with
  | true =>
    have : l.findIdx? (fun x => !true && decide (x.Thing = t)) = none := by rw [List.findIdx?_eq_none_iff]; intro x _; rfl
    rw [this]; rfl
  | false =>
    have e : (fun x : Slot => !false && decide (x.Thing = t)) = (fun x : Slot => decide (x.Thing = t)) := by funext x; simp
    rw [e]
    cases l.findIdx? (fun x => decide (x.Thing = t)) with
    | none => rfl
    | some i =>
      simp only [Option.bind_some, evO, Bool.false_or, decide_eq_false (show ¬ (i : Int) < 0 by omega), cond_false]
/-- Where the thing is: its slot, or none. -/
def inSlot (l : List Slot) (t : Int) : Bool := !(decide (t = 0) || decide (slotIx l t < 0))
theorem slotWith_in (l : List Slot) (t : Int) (hl : l.length ≤ 1048576) : ∃ c, impl_slotWith l t = some c ∧ decide (c < 0) = !inSlot l t := by
  rw [slotWith l t hl]
  unfold inSlot
  cases decide (t = 0) with
  | true => exact ⟨-1, rfl, rfl⟩
  | false => exact ⟨slotIx l t, rfl, by simp⟩
end Go.Proofs.YtcdffihcfeajfaaGreat
