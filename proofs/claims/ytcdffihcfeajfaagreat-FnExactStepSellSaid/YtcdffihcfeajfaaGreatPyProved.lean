import Derived.Test.YtcdffihcfeajfaaGreatPyOut
namespace Go.Proofs.YtcdffihcfeajfaaGreat
open Go
set_option linter.unusedVariables false
set_option linter.unusedSimpArgs false
def VR (l : List Claim) (t : Int) : Nat → Int
 | 0 => -1
 | n + 1 => if (gt l (n : Int)).Thing = t ∧ (gt l (n : Int)).State = 1 ∧ (VR l t n < 0 ∨ (gt l (n : Int)).At < (gt l (VR l t n)).At) then (n : Int) else VR l t n
theorem Qfo (l : List Claim) (t : Int) : ∀ n, VR l t n = -1 ∨ ∃ j : Nat, j < n ∧ VR l t n = (j : Int)
 | 0 => .inl rfl
 | n + 1 => by
  unfold VR
  split
  ·exact .inr ⟨n, by omega, rfl⟩
  ·rcases Qfo l t n with h | ⟨j, h1, h2⟩
   ·exact .inl h
   ·exact .inr ⟨j, by omega, h2⟩
theorem QpL (l : List Claim) (t : Int) (hl : l.length ≤ 1048576) : ∃ c, Zg l t = some c ∧ J9 l t = some c ∧ (c = 0 ∨ ∃ k : Nat, ∃ hk : k < l.length, l[k].Id = c) := by
 have hcase : ∀ i : Nat, (VR l t (i + 1) = (i : Int) ∧ (gt l (i : Int)).Thing = t ∧ (gt l (i : Int)).State = 1 ∧ (VR l t i = -1 ∨ ∃ j : Nat, j < i ∧ VR l t i = (j : Int) ∧ (gt l (i : Int)).At < (gt l (j : Int)).At)) ∨
   (VR l t (i + 1) = VR l t i ∧ (¬ (gt l (i : Int)).Thing = t ∨ ¬ (gt l (i : Int)).State = 1 ∨ ∃ j : Nat, j < i ∧ VR l t i = (j : Int) ∧ ¬ (gt l (i : Int)).At < (gt l (j : Int)).At)) := by
  intro i
  have e : VR l t (i + 1) = (if (gt l (i : Int)).Thing = t ∧ (gt l (i : Int)).State = 1 ∧ (VR l t i < 0 ∨ (gt l (i : Int)).At < (gt l (VR l t i)).At) then (i : Int) else VR l t i) := rfl
  by_cases hc : (gt l (i : Int)).Thing = t ∧ (gt l (i : Int)).State = 1 ∧ (VR l t i < 0 ∨ (gt l (i : Int)).At < (gt l (VR l t i)).At)
  ·rw [if_pos hc] at e
   refine .inl ⟨e, hc.1, hc.2.1, ?_⟩
   rcases Qfo l t i with h | ⟨j, hj, h⟩
   ·exact .inl h
   ·refine .inr ⟨j, hj, h, ?_⟩
    rcases hc.2.2 with h' | h'
    ·omega
    ·rw [h] at h'; exact h'
  ·rw [if_neg hc] at e
   refine .inr ⟨e, ?_⟩
   by_cases h1 : (gt l (i : Int)).Thing = t
   ·by_cases h2 : (gt l (i : Int)).State = 1
    ·rcases Qfo l t i with h | ⟨j, hj, h⟩
     ·exact absurd ⟨h1, h2, .inl (by omega)⟩ hc
     ·refine .inr (.inr ⟨j, hj, h, fun h' => hc ⟨h1, h2, .inr (by rw [h]; exact h')⟩⟩)
    ·exact .inr (.inl h2)
   ·exact .inl h1
 have hs := Qbv (step := QX l t) (fun i => (VR l t i, (i : Int))) (r := VR l t l.length) l.length (fun i hi => by
   have hw := QP (show (i : Int) < 9223372036854775807 by omega)
   rcases hcase i with ⟨e, h1, h2, h3 | ⟨j, hj, h3, h4⟩⟩ | ⟨e, h1 | h2 | ⟨j, hj, h3, h4⟩⟩
   ·simp only [QX, e, h3, h1, h2, Qu hi, Qg hi, hw, decide_true, cond_true, Qa]; rfl
   ·simp only [QX, e, h3, h1, h2, Qu hi, Qg hi, hw, decide_true, cond_true, Qa, Qg (show j < l.length by omega), decide_eq_false (show ¬ (j : Int) < 0 by omega), cond_false, decide_eq_true h4]; rfl
   ·simp only [QX, e, decide_eq_false h1, Qu hi, Qg hi, hw, cond_true, cond_false, Qa]; rfl
   ·cases decide ((gt l (i : Int)).Thing = t) <;> simp only [QX, e, decide_eq_false h2, Qu hi, Qg hi, hw, cond_true, cond_false, Qa] <;> cases decide ((gt l (i : Int)).Thing = t) <;> rfl
   ·simp only [QX, e, h3, Qu hi, Qg hi, hw, cond_true, cond_false, Qa, Qg (show j < l.length by omega), decide_eq_false (show ¬ (j : Int) < 0 by omega), decide_eq_false h4]
    cases decide ((gt l (i : Int)).Thing = t) <;> cases decide ((gt l (i : Int)).State = 1) <;> rfl)
  (by simp only [QX, Qx (Nat.le_refl _), cond_false])
 have hi := Qbv (step := Q0 t l (ln l)) (fun i => (bif decide (VR l t i < 0) then (⟨0, 0, 0, 0, 0⟩ : Claim) else gt l (VR l t i), decide (0 ≤ VR l t i), (i : Int))) (r := bif decide (VR l t l.length < 0) then (⟨0, 0, 0, 0, 0⟩ : Claim) else gt l (VR l t l.length)) l.length (fun i hi => by
   have hw := QP (show (i : Int) < 9223372036854775807 by omega)
   have hn : decide ((i : Int) < 0) = false := decide_eq_false (by omega)
   have hn' : decide (0 ≤ (i : Int)) = true := decide_eq_true (by omega)
   rcases hcase i with ⟨e, h1, h2, h3 | ⟨j, hj, h3, h4⟩⟩ | ⟨e, h1 | h2 | ⟨j, hj, h3, h4⟩⟩
   ·simp only [Q0, e, h3, h1, h2, Qu hi, Qg hi, hw, decide_true, cond_true, Qa, hn, hn']; rfl
   ·simp only [Q0, e, h3, h1, h2, Qu hi, Qg hi, hw, decide_true, cond_true, Qa, hn, hn', decide_eq_false (show ¬ (j : Int) < 0 by omega), decide_eq_true (show 0 ≤ (j : Int) by omega), cond_false, decide_eq_true h4]; rfl
   ·simp only [Q0, e, decide_eq_false h1, Qu hi, Qg hi, hw, cond_true, cond_false, Qa]; rfl
   ·simp only [Q0, e, decide_eq_false h2, Qu hi, Qg hi, hw, cond_true, cond_false, Qa]
    cases decide ((gt l (i : Int)).Thing = t) <;> rfl
   ·simp only [Q0, e, h3, Qu hi, Qg hi, hw, cond_true, cond_false, Qa, decide_eq_false (show ¬ (j : Int) < 0 by omega), decide_eq_true (show 0 ≤ (j : Int) by omega), decide_eq_false h4]
    cases decide ((gt l (i : Int)).Thing = t) <;> cases decide ((gt l (i : Int)).State = 1) <;> rfl)
  (by simp only [Q0, Qx (Nat.le_refl _), cond_false])
 have hi' : run (Q0 t l (ln l)) ((⟨0, 0, 0, 0, 0⟩ : Claim), false, 0) = some (bif decide (VR l t l.length < 0) then (⟨0, 0, 0, 0, 0⟩ : Claim) else gt l (VR l t l.length)) := hi
 unfold Zg J9
 rw [show run (QX l t) ((-1), 0) = some (VR l t l.length) from hs, hi']
 rcases Qfo l t l.length with h | ⟨j, hj, h⟩
 ·rw [h]; exact ⟨0, rfl, rfl, .inl rfl⟩
 ·rw [h]
  simp only [Option.bind_some, decide_eq_false (show ¬ (j : Int) < 0 by omega), cond_false, Qg hj, Qz hj, Qa]
  exact ⟨_, rfl, rfl, .inr ⟨j, hj, rfl⟩⟩
theorem QsU (l : List Find) (id : Int) : Z8 l id = -1 ∨ ∃ k : Nat, k < l.length ∧ Z8 l id = (k : Int) := by
 unfold Z8
 cases hf : l.findIdx? (fun x => decide (x.Thing.Id = id)) with
 | none => exact .inl rfl
 | some i =>
  obtain ⟨hi, hp⟩ := QcM hf
  exact .inr ⟨i, hi, rfl⟩
end Go.Proofs.YtcdffihcfeajfaaGreat
