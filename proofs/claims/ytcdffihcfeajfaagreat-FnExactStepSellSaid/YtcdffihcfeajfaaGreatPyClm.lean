import Derived.Test.YtcdffihcfeajfaaGreatPyStep1
namespace Go.Proofs.YtcdffihcfeajfaaGreat
open Go
set_option linter.unusedVariables false
set_option linter.unusedSimpArgs false
def QcQ (l : List Claim) (i : Nat) : Bool :=
 (decide (1 ≤ (gt l (i : Int)).Id) && decide ((gt l (i : Int)).Id ≤ 999)) && ((decide (1 ≤ (gt l (i : Int)).Who) && decide ((gt l (i : Int)).Who ≤ 999)) && ((decide (1 ≤ (gt l (i : Int)).Thing) && decide ((gt l (i : Int)).Thing ≤ 999)) && ((decide (0 ≤ (gt l (i : Int)).At) && decide ((gt l (i : Int)).At ≤ 100000)) && ((decide (0 ≤ (gt l (i : Int)).State) && decide ((gt l (i : Int)).State ≤ 3)) &&
  ((decide (i = 0) || !decide ((gt l (i : Int)).Id ≤ (gt l ((i - 1 : Nat) : Int)).Id)) && !(l.take i).any (Qc7 (gt l (i : Int))))))))
theorem Qp7 (l : List Claim) (hl : l.length ≤ 2097152) (i : Nat) (hi : i < l.length) : Q1 l (i : Int) = some (bif QcQ l i then .inl ((i + 1 : Nat) : Int) else .inr (.ret false)) := by
 have hin := Qdl l i hi (by omega)
 simp only [Q1, QcQ, Qu hi, Qg hi, Qz hi, QP (show (i : Int) < 9223372036854775807 by omega), cond_true, Qa, Qf, Option.bind_some, hin]
 generalize (l.take i).any (Qc7 l[i]) = q
 by_cases h0 : 0 < i
 ·simp only [show decide (0 < (i : Int)) = true from decide_eq_true (by omega), show decide (i = 0) = false from decide_eq_false (by omega), ZG h0 (by omega), Qg (show i - 1 < l.length by omega), cond_true, Qa]
  cases (decide (1 ≤ l[i].Id) && decide (l[i].Id ≤ 999)) <;> cases (decide (1 ≤ l[i].Who) && decide (l[i].Who ≤ 999)) <;> cases (decide (1 ≤ l[i].Thing) && decide (l[i].Thing ≤ 999)) <;> cases (decide (0 ≤ l[i].At) && decide (l[i].At ≤ 100000)) <;> cases (decide (0 ≤ l[i].State) && decide (l[i].State ≤ 3)) <;> cases decide (l[i].Id ≤ (gt l ((i - 1 : Nat) : Int)).Id) <;> cases q <;> rfl
 ·simp only [show decide (0 < (i : Int)) = false from decide_eq_false (by omega), show decide (i = 0) = true from decide_eq_true (by omega), cond_false]
  cases (decide (1 ≤ l[i].Id) && decide (l[i].Id ≤ 999)) <;> cases (decide (1 ≤ l[i].Who) && decide (l[i].Who ≤ 999)) <;> cases (decide (1 ≤ l[i].Thing) && decide (l[i].Thing ≤ 999)) <;> cases (decide (0 ≤ l[i].At) && decide (l[i].At ≤ 100000)) <;> cases (decide (0 ≤ l[i].State) && decide (l[i].State ≤ 3)) <;> cases q <;> rfl
theorem QkE (l : List Claim) (hl : l.length ≤ 2097152) : Vn l = some ((List.range l.length).all (QcQ l) && decide ((l.length : Int) ≤ 20)) := by
 have key : ∀ (m i : Nat), i + m = l.length → run (Q1 l) (i : Int) = some (bif (List.range' i m).all (QcQ l) then .brk () else .ret false) := by
  intro m
  induction m with
  | zero =>
   intro i hi
   have : i = l.length := by omega
   subst this
   rw [Qs]
   simp only [Q1, Qx (Nat.le_refl _), cond_false, List.range'_zero, List.all_nil, cond_true, Option.bind_some]
  | succ m ih =>
   intro i hi
   rw [Qs, Qp7 l hl i (by omega), List.range'_succ, List.all_cons]
   cases QcQ l i with
   | false => rfl
   | true => simp only [cond_true, Bool.true_and]; exact ih (i + 1) (by omega)
 unfold Vn
 rw [show run (Q1 l) 0 = _ from key l.length 0 (by omega), ← List.range_eq_range']
 cases (List.range l.length).all (QcQ l) <;> rfl
theorem QpS (l : List Claim) (h : Vn l = some true) (hl : l.length ≤ 2097152) : l.length ≤ 20 ∧ ∀ i, i < l.length → QcQ l i = true := by
 rw [QkE l hl] at h
 simp only [Option.some.injEq, Bool.and_eq_true, decide_eq_true_eq, List.all_eq_true, List.mem_range] at h
 exact ⟨by omega, h.1⟩
theorem QqU {α : Type} [Inhabited α] (l : List α) (k : Nat) (x : α) (i : Nat) (hi : i < l.length) : gt (l.set k x) (i : Int) = if i = k then x else gt l (i : Int) := by
 rw [Qz (by rw [List.length_set]; exact hi), Qz hi, List.getElem_set]
 by_cases h : i = k
 ·subst h; simp
 ·rw [if_neg h, if_neg (by omega)]
theorem Ql9 (l : List Claim) (k i : Nat) (x y : Claim) (hi : i ≤ l.length) (hx : x.State ≠ 3) (h : (l.take i).any (Qc7 y) = false) : ((l.set k x).take i).any (Qc7 y) = false := by
 rw [List.any_eq_false] at h ⊢
 intro z hz
 obtain ⟨j, hj, rfl⟩ := List.getElem_of_mem hz
 have hj' : j < i ∧ j < l.length := by simp at hj; omega
 rw [List.getElem_take, List.getElem_set]
 by_cases hk : k = j
 ·rw [if_pos hk]; unfold Qc7; simp [hx]
 ·rw [if_neg hk]
  exact h _ (by
   rw [List.mem_take_iff_getElem]
   exact ⟨j, by omega, rfl⟩)
theorem Qzb (l : List Claim) (k : Nat) (hk : k < l.length) (s : Int) (hs : s = 1 ∨ s = 2) (hl : l.length ≤ 1048576) (h : Vn l = some true) : Vn (l.set k ⟨l[k].Id, l[k].Who, l[k].Thing, l[k].At, s⟩) = some true := by
 obtain ⟨h1, h2⟩ := QpS l h (by omega)
 rw [QkE _ (by rw [List.length_set]; omega)]
 rw [List.length_set]
 have : (List.range l.length).all (QcQ (l.set k ⟨l[k].Id, l[k].Who, l[k].Thing, l[k].At, s⟩)) = true := by
  rw [List.all_eq_true]
  intro i hi
  rw [List.mem_range] at hi
  have ho := h2 i hi
  have hgi : ∀ j, j < l.length → (gt (l.set k ⟨l[k].Id, l[k].Who, l[k].Thing, l[k].At, s⟩) (j : Int)).Id = (gt l (j : Int)).Id := by
   intro j hj
   rw [QqU l k _ j hj]
   by_cases hjk : j = k
   ·subst hjk; rw [if_pos rfl, Qz hj]
   ·rw [if_neg hjk]
  unfold QcQ at ho ⊢
  rw [hgi i hi, hgi (i - 1) (by omega)]
  simp only [Bool.and_eq_true] at ho ⊢
  obtain ⟨o1, o2, o3, o4, o5, o6, o7⟩ := ho
  rw [QqU l k _ i hi]
  by_cases hik : i = k
  ·subst hik
   rw [Qz hi] at o1 o2 o3 o4 o5 o6 o7
   rw [if_pos rfl, Qz hi]
   refine ⟨o1, o2, o3, o4, ?_, o6, ?_⟩
   ·rcases hs with rfl | rfl <;> exact ⟨rfl, rfl⟩
   ·have hst : s ≠ 3 := by omega
    rw [show ((l.set i ⟨l[i].Id, l[i].Who, l[i].Thing, l[i].At, s⟩).take i).any (Qc7 ⟨l[i].Id, l[i].Who, l[i].Thing, l[i].At, s⟩) = false from by
     rw [List.any_eq_false]; intro z _; unfold Qc7; simp [hst]]
    rfl
  ·rw [if_neg hik]
   refine ⟨o1, o2, o3, o4, o5, o6, ?_⟩
   have o7' : (l.take i).any (Qc7 (gt l (i : Int))) = false := by simpa using o7
   rw [Ql9 l k i _ _ (by omega) (by show s ≠ 3; omega) o7']
   rfl
 rw [this]
 simp; omega
end Go.Proofs.YtcdffihcfeajfaaGreat
