import Derived.Test.YtcdffihcfeajfaaGreatPyChain
import Derived.Test.YtcdffihcfeajfaaGreatPyRun
namespace Go.Proofs.YtcdffihcfeajfaaGreat
open Go
set_option linter.unusedVariables false
set_option linter.unusedSimpArgs false
theorem Qoe (x : Thing) : ∃ b, Zo x = some b ∧ Qbr x = some b ∧ (b = true → 1 ≤ x.Id) := by
 have e : Qbr x = Zo x := rfl
 rw [e]
 unfold Zo Qf
 simp only [Option.bind_some]
 cases h1 : (decide (1 ≤ x.Id) && decide (x.Id ≤ 999)) with
 | false => exact ⟨false, rfl, rfl, fun h => by cases h⟩
 | true =>
  have : 1 ≤ x.Id := by simp only [Bool.and_eq_true, decide_eq_true_eq] at h1; exact h1.1
  cases (decide (1 ≤ x.Kind) && decide (x.Kind ≤ 8)) <;> cases (decide (0 ≤ x.Colour) && decide (x.Colour ≤ 7)) <;> cases (decide (1 ≤ x.Size) && decide (x.Size ≤ 50)) <;> exact ⟨_, rfl, rfl, fun _ => this⟩
theorem QhO (f : Find) : ∃ b, VQ f = some b ∧ Zi f = some b ∧ (b = true → 1 ≤ f.Thing.Id) := by
 obtain ⟨b, h1, h2, h3⟩ := Qoe f.Thing
 unfold VQ Zi Qf Qb
 rw [h1, h2]
 simp only [Option.bind_some]
 cases b with
 | false => exact ⟨false, rfl, rfl, fun h => by cases h⟩
 | true => cases (decide (1 ≤ f.Place) && decide (f.Place ≤ 30)) <;> cases (decide (0 ≤ f.At) && decide (f.At ≤ 100000)) <;> exact ⟨_, rfl, rfl, fun _ => h3 rfl⟩
theorem Qso (l : List Find) (hl : l.length ≤ 2097152) : ∃ b, XW l = some b ∧ ZU l = some b ∧ (b = true → l.length ≤ 20 ∧ (∀ i (h : i < l.length), 1 ≤ l[i].Thing.Id) ∧ ∀ i (h : i < l.length) (h0 : 0 < i), (l[i - 1]'(by omega)).Thing.Id < l[i].Thing.Id) := by
 obtain ⟨b, h1, h2, h3⟩ := QcE (n := l.length) (r := false) (s1 := QU l) (s2 := Jc l l (ln l)) (fun i hi _ => by
   obtain ⟨b, q1, q2, _⟩ := QhO l[i]
   simp only [QU, Jc, Qu hi, Qg hi, Qz hi, QP (show (i : Int) < 9223372036854775807 by omega), cond_true, Qa, q1, q2, Option.bind_some]
   by_cases h0 : 0 < i
   ·simp only [show decide (0 < (i : Int)) = true from decide_eq_true (by omega), ZG h0 (by omega), Qg (show i - 1 < l.length by omega), cond_true, Qa]
    cases b <;> cases decide (l[i].Thing.Id ≤ (gt l ((i - 1 : Nat) : Int)).Thing.Id) <;> first | exact ⟨true, rfl, rfl⟩ | exact ⟨false, rfl, rfl⟩
   ·simp only [show decide (0 < (i : Int)) = false from decide_eq_false (by omega), cond_false]
    cases b <;> first | exact ⟨true, rfl, rfl⟩ | exact ⟨false, rfl, rfl⟩)
  (by simp only [QU, Qx (Nat.le_refl _), cond_false]) (by simp only [Jc, Qx (Nat.le_refl _), cond_false])
 refine ⟨b && decide ((l.length : Int) ≤ 20), (Zm _ h1).1, (Zm _ h2).2, fun hb => ?_⟩
 simp only [Bool.and_eq_true, decide_eq_true_eq] at hb
 refine ⟨by omega, fun i hi => ?_, fun i hi h0 => ?_⟩
 ·have hstep := (h3 hb.1 i hi).1
  obtain ⟨c, q1, q2, q3⟩ := QhO l[i]
  simp only [QU, Qu hi, Qg hi, Qz hi, cond_true, Qa, q1, Option.bind_some] at hstep
  cases c with
  | true => exact q3 rfl
  | false => simp at hstep
 ·have hstep := (h3 hb.1 i hi).1
  obtain ⟨c, q1, q2, q3⟩ := QhO l[i]
  simp only [QU, Qu hi, Qg hi, Qz hi, cond_true, Qa, q1, Option.bind_some, show decide (0 < (i : Int)) = true from decide_eq_true (by omega), ZG h0 (by omega), Qg (show i - 1 < l.length by omega), Qz (show i - 1 < l.length by omega)] at hstep
  by_cases hlt : l[i].Thing.Id ≤ (l[i - 1]'(by omega)).Thing.Id
  ·exfalso
   rw [decide_eq_true hlt] at hstep
   cases c <;> simp at hstep
  ·omega
theorem Qoh (l : List Find) (hl : l.length ≤ 1048576) : ∃ b, XW l = some b ∧ ZU l = some b ∧ (b = true → l.length ≤ 20 ∧ ∀ i (h : i < l.length), 1 ≤ l[i].Thing.Id) := by
 obtain ⟨b, h1, h2, h3⟩ := Qso l (by omega)
 exact ⟨b, h1, h2, fun h => ⟨(h3 h).1, (h3 h).2.1⟩⟩
theorem Qlz (l : List Mark) (hl : l.length ≤ 9223372036854775807) : ∃ b, QaS l = some b ∧ ZY l = some b := by
 obtain ⟨b, h1, h2, h3⟩ := QcE (n := l.length) (r := false) (s1 := X7 l) (s2 := Ja l l (ln l)) (fun i hi _ => by
   simp only [X7, Ja, Qu hi, Qg hi, Qz hi, QP (show (i : Int) < 9223372036854775807 by omega), cond_true, Qa, Qf, Qb, Option.bind_some]
   by_cases h0 : 0 < i
   ·simp only [show decide (0 < (i : Int)) = true from decide_eq_true (by omega), ZG h0 (by omega), Qg (show i - 1 < l.length by omega), cond_true, Qa]
    cases (decide (1 ≤ l[i].Question) && decide (l[i].Question ≤ 20)) <;> cases (decide (0 ≤ l[i].Answer) && decide (l[i].Answer ≤ 99)) <;> cases decide (l[i].Question ≤ (gt l ((i - 1 : Nat) : Int)).Question) <;> first | exact ⟨true, rfl, rfl⟩ | exact ⟨false, rfl, rfl⟩
   ·simp only [show decide (0 < (i : Int)) = false from decide_eq_false (by omega), cond_false]
    cases (decide (1 ≤ l[i].Question) && decide (l[i].Question ≤ 20)) <;> cases (decide (0 ≤ l[i].Answer) && decide (l[i].Answer ≤ 99)) <;> first | exact ⟨true, rfl, rfl⟩ | exact ⟨false, rfl, rfl⟩)
  (by simp only [X7, Qx (Nat.le_refl _), cond_false]) (by simp only [Ja, Qx (Nat.le_refl _), cond_false])
 exact ⟨_, (Zm _ h1).1, (Zm _ h2).2⟩
theorem Qpc (l : List Secret) (hl : l.length ≤ 2097152) (hm : ∀ x ∈ l, x.Marks.length ≤ 1048576) : ∃ b, JB l = some b ∧ Jr l = some b ∧ (b = true → l.length ≤ 20 ∧ ∀ i (h : i < l.length) (h0 : 0 < i), (l[i - 1]'(by omega)).Thing < l[i].Thing) := by
 obtain ⟨b, h1, h2, h3⟩ := QcE (n := l.length) (r := false) (s1 := Vy l) (s2 := V7 l l (ln l)) (fun i hi _ => by
   obtain ⟨m, m1, m2⟩ := Qlz l[i].Marks (Nat.le_trans (hm _ (List.getElem_mem hi)) (by omega))
   simp only [Vy, V7, Qu hi, Qg hi, Qz hi, QP (show (i : Int) < 9223372036854775807 by omega), cond_true, Qa, Qf, Qb, m1, m2, Option.bind_some]
   by_cases h0 : 0 < i
   ·simp only [show decide (0 < (i : Int)) = true from decide_eq_true (by omega), ZG h0 (by omega), Qg (show i - 1 < l.length by omega), cond_true, Qa]
    cases (decide (1 ≤ l[i].Thing) && decide (l[i].Thing ≤ 999)) <;> cases m <;> cases decide (ln l[i].Marks = 0) <;> cases (decide (0 ≤ l[i].Salt) && decide (l[i].Salt ≤ 1000000)) <;> cases decide (l[i].Thing ≤ (gt l ((i - 1 : Nat) : Int)).Thing) <;> first | exact ⟨true, rfl, rfl⟩ | exact ⟨false, rfl, rfl⟩
   ·simp only [show decide (0 < (i : Int)) = false from decide_eq_false (by omega), cond_false]
    cases (decide (1 ≤ l[i].Thing) && decide (l[i].Thing ≤ 999)) <;> cases m <;> cases decide (ln l[i].Marks = 0) <;> cases (decide (0 ≤ l[i].Salt) && decide (l[i].Salt ≤ 1000000)) <;> first | exact ⟨true, rfl, rfl⟩ | exact ⟨false, rfl, rfl⟩)
  (by simp only [Vy, Qx (Nat.le_refl _), cond_false]) (by simp only [V7, Qx (Nat.le_refl _), cond_false])
 refine ⟨_, (Zm _ h1).1, (Zm _ h2).2, fun hb => ?_⟩
 simp only [Bool.and_eq_true, decide_eq_true_eq] at hb
 refine ⟨by omega, fun i hi h0 => ?_⟩
 have hstep := (h3 hb.1 i hi).1
 obtain ⟨m, m1, m2⟩ := Qlz l[i].Marks (Nat.le_trans (hm _ (List.getElem_mem hi)) (by omega))
 simp only [Vy, Qu hi, Qg hi, Qz hi, cond_true, Qa, Qf, m1, Option.bind_some, show decide (0 < (i : Int)) = true from decide_eq_true (by omega), ZG h0 (by omega), Qg (show i - 1 < l.length by omega), Qz (show i - 1 < l.length by omega)] at hstep
 by_cases hlt : l[i].Thing ≤ (l[i - 1]'(by omega)).Thing
 ·exfalso
  rw [decide_eq_true hlt] at hstep
  revert hstep
  cases (decide (1 ≤ l[i].Thing) && decide (l[i].Thing ≤ 999)) <;> cases m <;> cases decide (ln l[i].Marks = 0) <;> cases (decide (0 ≤ l[i].Salt) && decide (l[i].Salt ≤ 1000000)) <;> simp
 ·omega
theorem QkH (l : List Secret) (hl : l.length ≤ 1048576) (hm : ∀ x ∈ l, x.Marks.length ≤ 1048576) : ∃ b, JB l = some b ∧ Jr l = some b := by
 obtain ⟨b, h1, h2, _⟩ := Qpc l (by omega) hm
 exact ⟨b, h1, h2⟩
end Go.Proofs.YtcdffihcfeajfaaGreat
