/- The first claim that was proved. The program's answers are the reference's. No condition but the length. -/
import Derived.Test.YtcdffihcfeajfaaGreatPyOut
namespace Go.Proofs.YtcdffihcfeajfaaGreat
open Go
set_option linter.unusedVariables false
set_option linter.unusedSimpArgs false
/-- The first claim that was proved. -/
def firstP (l : List Claim) (t : Int) : Nat → Int
  | 0 => -1
  | n + 1 => if (gt l (n : Int)).Thing = t ∧ (gt l (n : Int)).State = 1 ∧ (firstP l t n < 0 ∨ (gt l (n : Int)).At < (gt l (firstP l t n)).At) then (n : Int) else firstP l t n
theorem firstP_in (l : List Claim) (t : Int) : ∀ n, firstP l t n = -1 ∨ ∃ j : Nat, j < n ∧ firstP l t n = (j : Int)
  | 0 => .inl rfl
  | n + 1 => by
    unfold firstP
    split
    · exact .inr ⟨n, by omega, rfl⟩
    · rcases firstP_in l t n with h | ⟨j, h1, h2⟩
      · exact .inl h
      · exact .inr ⟨j, by omega, h2⟩
theorem firstProved (l : List Claim) (t : Int) (hl : l.length ≤ 1048576) : ∃ c, spec_FirstProved l t = some c ∧ impl_FirstProved l t = some c ∧ (c = 0 ∨ ∃ k : Nat, ∃ hk : k < l.length, l[k].Id = c) := by
  have hcase : ∀ i : Nat, (firstP l t (i + 1) = (i : Int) ∧ (gt l (i : Int)).Thing = t ∧ (gt l (i : Int)).State = 1 ∧ (firstP l t i = -1 ∨ ∃ j : Nat, j < i ∧ firstP l t i = (j : Int) ∧ (gt l (i : Int)).At < (gt l (j : Int)).At)) ∨
      (firstP l t (i + 1) = firstP l t i ∧ (¬ (gt l (i : Int)).Thing = t ∨ ¬ (gt l (i : Int)).State = 1 ∨ ∃ j : Nat, j < i ∧ firstP l t i = (j : Int) ∧ ¬ (gt l (i : Int)).At < (gt l (j : Int)).At)) := by
    intro i
    have e : firstP l t (i + 1) = (if (gt l (i : Int)).Thing = t ∧ (gt l (i : Int)).State = 1 ∧ (firstP l t i < 0 ∨ (gt l (i : Int)).At < (gt l (firstP l t i)).At) then (i : Int) else firstP l t i) := rfl
    by_cases hc : (gt l (i : Int)).Thing = t ∧ (gt l (i : Int)).State = 1 ∧ (firstP l t i < 0 ∨ (gt l (i : Int)).At < (gt l (firstP l t i)).At)
    · rw [if_pos hc] at e
      refine .inl ⟨e, hc.1, hc.2.1, ?_⟩
      rcases firstP_in l t i with h | ⟨j, hj, h⟩
      · exact .inl h
      · refine .inr ⟨j, hj, h, ?_⟩
        rcases hc.2.2 with h' | h'
        · omega
        · rw [h] at h'; exact h'
    · rw [if_neg hc] at e
      refine .inr ⟨e, ?_⟩
      by_cases h1 : (gt l (i : Int)).Thing = t
      · by_cases h2 : (gt l (i : Int)).State = 1
        · rcases firstP_in l t i with h | ⟨j, hj, h⟩
          · exact absurd ⟨h1, h2, .inl (by omega)⟩ hc
          · refine .inr (.inr ⟨j, hj, h, fun h' => hc ⟨h1, h2, .inr (by rw [h]; exact h')⟩⟩)
        · exact .inr (.inl h2)
      · exact .inl h1
  have hs := run_traj (step := spec_FirstProved_l3 l t) (fun i => (firstP l t i, (i : Int))) (r := firstP l t l.length) l.length (fun i hi => by
      have hw := w64_n (show (i : Int) < 9223372036854775807 by omega)
      rcases hcase i with ⟨e, h1, h2, h3 | ⟨j, hj, h3, h4⟩⟩ | ⟨e, h1 | h2 | ⟨j, hj, h3, h4⟩⟩
      · simp only [spec_FirstProved_l3, e, h3, h1, h2, lt_ln hi, inb_n hi, hw, decide_true, cond_true, need_true]; rfl
      · simp only [spec_FirstProved_l3, e, h3, h1, h2, lt_ln hi, inb_n hi, hw, decide_true, cond_true, need_true, inb_n (show j < l.length by omega), decide_eq_false (show ¬ (j : Int) < 0 by omega), cond_false, decide_eq_true h4]; rfl
      · simp only [spec_FirstProved_l3, e, decide_eq_false h1, lt_ln hi, inb_n hi, hw, cond_true, cond_false, need_true]; rfl
      · cases decide ((gt l (i : Int)).Thing = t) <;> simp only [spec_FirstProved_l3, e, decide_eq_false h2, lt_ln hi, inb_n hi, hw, cond_true, cond_false, need_true] <;> cases decide ((gt l (i : Int)).Thing = t) <;> rfl
      · simp only [spec_FirstProved_l3, e, h3, lt_ln hi, inb_n hi, hw, cond_true, cond_false, need_true, inb_n (show j < l.length by omega), decide_eq_false (show ¬ (j : Int) < 0 by omega), decide_eq_false h4]
        cases decide ((gt l (i : Int)).Thing = t) <;> cases decide ((gt l (i : Int)).State = 1) <;> rfl)
    (by simp only [spec_FirstProved_l3, ge_ln (Nat.le_refl _), cond_false])
  have hi := run_traj (step := impl_FirstProved_l4 t l (ln l)) (fun i => (bif decide (firstP l t i < 0) then (⟨0, 0, 0, 0, 0⟩ : Claim) else gt l (firstP l t i), decide (0 ≤ firstP l t i), (i : Int))) (r := bif decide (firstP l t l.length < 0) then (⟨0, 0, 0, 0, 0⟩ : Claim) else gt l (firstP l t l.length)) l.length (fun i hi => by
      have hw := w64_n (show (i : Int) < 9223372036854775807 by omega)
      have hn : decide ((i : Int) < 0) = false := decide_eq_false (by omega)
      have hn' : decide (0 ≤ (i : Int)) = true := decide_eq_true (by omega)
      rcases hcase i with ⟨e, h1, h2, h3 | ⟨j, hj, h3, h4⟩⟩ | ⟨e, h1 | h2 | ⟨j, hj, h3, h4⟩⟩
      · simp only [impl_FirstProved_l4, e, h3, h1, h2, lt_ln hi, inb_n hi, hw, decide_true, cond_true, need_true, hn, hn']; rfl
      · simp only [impl_FirstProved_l4, e, h3, h1, h2, lt_ln hi, inb_n hi, hw, decide_true, cond_true, need_true, hn, hn', decide_eq_false (show ¬ (j : Int) < 0 by omega), decide_eq_true (show 0 ≤ (j : Int) by omega), cond_false, decide_eq_true h4]; rfl
      · simp only [impl_FirstProved_l4, e, decide_eq_false h1, lt_ln hi, inb_n hi, hw, cond_true, cond_false, need_true]; rfl
      · simp only [impl_FirstProved_l4, e, decide_eq_false h2, lt_ln hi, inb_n hi, hw, cond_true, cond_false, need_true]
        cases decide ((gt l (i : Int)).Thing = t) <;> rfl
      · simp only [impl_FirstProved_l4, e, h3, lt_ln hi, inb_n hi, hw, cond_true, cond_false, need_true, decide_eq_false (show ¬ (j : Int) < 0 by omega), decide_eq_true (show 0 ≤ (j : Int) by omega), decide_eq_false h4]
        cases decide ((gt l (i : Int)).Thing = t) <;> cases decide ((gt l (i : Int)).State = 1) <;> rfl)
    (by simp only [impl_FirstProved_l4, ge_ln (Nat.le_refl _), cond_false])
  have hi' : run (impl_FirstProved_l4 t l (ln l)) ((⟨0, 0, 0, 0, 0⟩ : Claim), false, 0) = some (bif decide (firstP l t l.length < 0) then (⟨0, 0, 0, 0, 0⟩ : Claim) else gt l (firstP l t l.length)) := hi
  unfold spec_FirstProved impl_FirstProved
  rw [show run (spec_FirstProved_l3 l t) ((-1), 0) = some (firstP l t l.length) from hs, hi']
  rcases firstP_in l t l.length with h | ⟨j, hj, h⟩
  · rw [h]; exact ⟨0, rfl, rfl, .inl rfl⟩
  · rw [h]
    simp only [Option.bind_some, decide_eq_false (show ¬ (j : Int) < 0 by omega), cond_false, inb_n hj, gt_n hj, need_true]
    exact ⟨_, rfl, rfl, .inr ⟨j, hj, rfl⟩⟩
theorem findIx_at (l : List Find) (id : Int) : findIx l id = -1 ∨ ∃ k : Nat, k < l.length ∧ findIx l id = (k : Int) := by
  unfold findIx
  cases hf : l.findIdx? (fun x => decide (x.Thing.Id = id)) with
  | none => exact .inl rfl
  | some i =>
    obtain ⟨hi, hp⟩ := find_at hf
    exact .inr ⟨i, hi, rfl⟩
end Go.Proofs.YtcdffihcfeajfaaGreat
