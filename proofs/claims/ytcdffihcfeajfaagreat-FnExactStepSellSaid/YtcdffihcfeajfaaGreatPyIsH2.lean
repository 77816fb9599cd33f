import Derived.Test.YtcdffihcfeajfaaGreatPyIsH1
namespace Go.Proofs.YtcdffihcfeajfaaGreat
open Go
set_option linter.unusedVariables false
set_option linter.unusedSimpArgs false
theorem Qc1 {α : Type} (l : List α) (i : Nat) : cut l 0 (i : Int) = l.take i := by simp [cut]
theorem Qkj {i n : Nat} (h : i ≤ n) : slB 0 (i : Int) (n : Int) = true := by unfold slB; simp; omega
def Qc4 (l : List Slot) (t : Int) : Int := match l.findIdx? (fun x => decide (x.Thing = t)) with | some i => (i : Int) | none => -1
theorem Qht (l : List Slot) (t : Int) (hl : l.length ≤ 1048576) : Xd l t = some (bif decide (t = 0) then -1 else Qc4 l t) := by
 have hi := ZN l (fun x => decide (x.Thing = t)) (fun i => (i : Int)) (step := Qy l t (ln l))
  (fun i hi => by
   simp only [Qy, Qa0, Option.bind_some, Qu hi, Qg hi, Qz hi, QP (show (i : Int) < 9223372036854775807 by omega), cond_true, Qa]
   cases decide (l[i].Thing = t) <;> rfl)
  (by simp only [Qy, Qx (Nat.le_refl _), cond_false])
 unfold Xd Q7 Qc4
 rw [hi]
 cases decide (t = 0) with
 | true => rfl
 | false => cases l.findIdx? (fun x => decide (x.Thing = t)) <;> rfl
theorem Qgx (l : List Slot) (t : Int) : (l.any (fun x => decide (x.Thing = t)) = false ∧ Qc4 l t = -1) ∨ ∃ k : Nat, ∃ hk : k < l.length, Qc4 l t = (k : Int) ∧ l[k].Thing = t ∧ l.any (fun x => decide (x.Thing = t)) = true := by
 unfold Qc4
 cases hf : l.findIdx? (fun x => decide (x.Thing = t)) with
 | none =>
  left
  refine ⟨?_, rfl⟩
  rw [List.any_eq_false]
  intro y hy
  have := List.findIdx?_eq_none_iff.1 hf y hy
  simpa using this
 | some i =>
  obtain ⟨hi, hp⟩ := QcM hf
  right
  exact ⟨i, hi, rfl, by simpa using hp, List.any_eq_true.2 ⟨_, List.getElem_mem hi, hp⟩⟩
theorem QwL (l : List Slot) (t : Int) (hl : l.length ≤ 1048576) (hid : ∀ x ∈ l, 1 ≤ x.Id) : ∃ c, Qbd l t = some c ∧ decide (c = 0) = !(!decide (t = 0) && l.any (fun x => decide (x.Thing = t))) := by
 unfold Qbd
 rw [Qht l t hl]
 by_cases ht : t = 0
 ·rw [decide_eq_true ht]; exact ⟨0, rfl, rfl⟩
 ·rw [decide_eq_false ht]
  simp only [cond_false, Option.bind_some]
  rcases Qgx l t with ⟨h1, h2⟩ | ⟨k, hk, h1, h2, h3⟩
  ·rw [h1, h2]; exact ⟨0, rfl, rfl⟩
  ·have hpos := hid l[k] (List.getElem_mem hk)
   rw [h1, h3, decide_eq_false (show ¬ (k : Int) < 0 by omega), Qg hk, Qz hk]
   refine ⟨l[k].Id, rfl, ?_⟩
   rw [decide_eq_false (by omega)]; rfl
theorem QdP (l : List Slot) (i : Nat) (hi : i < l.length) (hl : l.length ≤ 1048576) :
  run (V0 l (i : Int)) 0 = some (bif (!decide (l[i].Thing = 0) && (l.take i).any (fun x => decide (x.Thing = l[i].Thing))) then .ret false else .brk ()) := by
 have hlen : (l.take i).length = i := by simp; omega
 have hr := Qfw (l.take i) (fun x => !decide (l[i].Thing = 0) && decide (x.Thing = l[i].Thing)) (r := false) (step := V0 l (i : Int))
  (fun k hk => by
   rw [hlen] at hk
   have hkl : k < l.length := by omega
   have e : (l.take i)[k]'(by rw [hlen]; exact hk) = l[k] := by simp
   simp only [V0, e, show decide ((k : Int) < (i : Int)) = true from decide_eq_true (by omega), Qg hi, Qz hi, Qg hkl, Qz hkl, QP (show (k : Int) < 9223372036854775807 by omega), cond_true, Qa]
   cases decide (l[i].Thing = 0) <;> cases decide (l[k].Thing = l[i].Thing) <;> rfl)
  (by rw [hlen]; simp only [V0, show decide ((i : Int) < (i : Int)) = false from decide_eq_false (by omega), cond_false])
 rw [hr]
 congr 1
 cases decide (l[i].Thing = 0) with
 | true =>
  have : (l.take i).any (fun x => !true && decide (x.Thing = l[i].Thing)) = false := by rw [List.any_eq_false]; simp
  rw [this]; rfl
 | false => simp
theorem QmM (l : List Slot) (hl : l.length ≤ 1048576) : ∃ b, JT l = some b ∧ JS l = some b ∧ (b = true → l.length ≤ 30 ∧ (∀ x ∈ l, 1 ≤ x.Id) ∧ ∀ i (h : i < l.length) (h0 : 0 < i), (l[i - 1]'(by omega)).Id < l[i].Id) := by
 have idOf : ∀ i (hi : i < l.length), Vq l (i : Int) = some (.inl ((i + 1 : Nat) : Int)) → 1 ≤ l[i].Id := by
  intro i hi hstep
  by_cases h : 1 ≤ l[i].Id
  ·exact h
  ·exfalso
   have e : (decide (1 ≤ l[i].Id) && decide (l[i].Id ≤ 99)) = false := by rw [decide_eq_false h]; rfl
   simp only [Vq, Qu hi, Qg hi, Qz hi, cond_true, Qa, Qf, Option.bind_some, e, Bool.not_false] at hstep
   simp at hstep
 obtain ⟨b, h1, h2, h3⟩ := QcE (n := l.length) (r := false) (s1 := Vq l) (s2 := Je l l (ln l)) (fun i hi hpre => by
   have hids : ∀ x ∈ l.take i, 1 ≤ x.Id := by
    intro x hx
    obtain ⟨k, hk, rfl⟩ := List.getElem_of_mem hx
    have hk' : k < i := by simp at hk; omega
    simp only [List.getElem_take]
    exact idOf k (by omega) (hpre k hk')
   obtain ⟨c, c1, c2⟩ := QwL (l.take i) l[i].Thing (by simp; omega) hids
   have hsl : slB 0 (i : Int) (ln l) = true := Qkj (by omega)
   simp only [Vq, Je, Qu hi, Qg hi, Qz hi, QP (show (i : Int) < 9223372036854775807 by omega), cond_true, Qa, Qf, Qb, Option.bind_some, QdP l i hi hl, Qc1, c1, c2, hsl]
   generalize (!decide (l[i].Thing = 0) && (l.take i).any (fun x => decide (x.Thing = l[i].Thing))) = q
   by_cases h0 : 0 < i
   ·simp only [show decide (0 < (i : Int)) = true from decide_eq_true (by omega), ZG h0 (by omega), Qg (show i - 1 < l.length by omega), cond_true, Qa]
    cases (decide (1 ≤ l[i].Id) && decide (l[i].Id ≤ 99)) <;> cases (decide (1 ≤ l[i].Size) && decide (l[i].Size ≤ 50)) <;> cases (decide (0 ≤ l[i].Thing) && decide (l[i].Thing ≤ 999)) <;> cases decide (l[i].Id ≤ (gt l ((i - 1 : Nat) : Int)).Id) <;> cases q <;> first | exact ⟨true, rfl, rfl⟩ | exact ⟨false, rfl, rfl⟩
   ·simp only [show decide (0 < (i : Int)) = false from decide_eq_false (by omega), cond_false]
    cases (decide (1 ≤ l[i].Id) && decide (l[i].Id ≤ 99)) <;> cases (decide (1 ≤ l[i].Size) && decide (l[i].Size ≤ 50)) <;> cases (decide (0 ≤ l[i].Thing) && decide (l[i].Thing ≤ 999)) <;> cases q <;> first | exact ⟨true, rfl, rfl⟩ | exact ⟨false, rfl, rfl⟩)
  (by simp only [Vq, Qx (Nat.le_refl _), cond_false]) (by simp only [Je, Qx (Nat.le_refl _), cond_false])
 refine ⟨b && decide ((l.length : Int) ≤ 30), (Zm _ h1).1, (Zm _ h2).2, fun hb => ?_⟩
 simp only [Bool.and_eq_true, decide_eq_true_eq] at hb
 refine ⟨by omega, fun x hx => ?_, fun i hi h0 => ?_⟩
 ·obtain ⟨k, hk, rfl⟩ := List.getElem_of_mem hx
  exact idOf k hk (h3 hb.1 k hk).1
 ·have hstep := (h3 hb.1 i hi).1
  simp only [Vq, Qu hi, Qg hi, Qz hi, cond_true, Qa, Qf, QdP l i hi hl, Option.bind_some, show decide (0 < (i : Int)) = true from decide_eq_true (by omega), ZG h0 (by omega), Qg (show i - 1 < l.length by omega), Qz (show i - 1 < l.length by omega)] at hstep
  by_cases hlt : l[i].Id ≤ (l[i - 1]'(by omega)).Id
  ·exfalso
   rw [decide_eq_true hlt] at hstep
   revert hstep
   cases (decide (1 ≤ l[i].Id) && decide (l[i].Id ≤ 99)) <;> cases (decide (1 ≤ l[i].Size) && decide (l[i].Size ≤ 50)) <;> cases (decide (0 ≤ l[i].Thing) && decide (l[i].Thing ≤ 999)) <;> simp
  ·omega
theorem Qpt (l : List Slot) (hl : l.length ≤ 1048576) : ∃ b, JT l = some b ∧ JS l = some b ∧ (b = true → l.length ≤ 30 ∧ ∀ x ∈ l, 1 ≤ x.Id) := by
 obtain ⟨b, h1, h2, h3⟩ := QmM l hl
 exact ⟨b, h1, h2, fun h => ⟨(h3 h).1, (h3 h).2.1⟩⟩
def Qc7 (x y : Claim) : Bool := decide (x.State = 3) && (decide (y.State = 3) && decide (y.Thing = x.Thing))
theorem Qdl (l : List Claim) (i : Nat) (hi : i < l.length) (hl : l.length ≤ 2097152) :
  run (VK l (i : Int) l[i]) 0 = some (bif (l.take i).any (Qc7 l[i]) then .ret false else .brk ()) := by
 have hlen : (l.take i).length = i := by simp; omega
 exact Qfw (l.take i) (Qc7 l[i]) (r := false) (step := VK l (i : Int) l[i])
  (fun k hk => by
   rw [hlen] at hk
   have hkl : k < l.length := by omega
   have e : (l.take i)[k]'(by rw [hlen]; exact hk) = l[k] := by simp
   simp only [VK, Qc7, e, show decide ((k : Int) < (i : Int)) = true from decide_eq_true (by omega), Qg hkl, Qz hkl, QP (show (k : Int) < 9223372036854775807 by omega), cond_true, Qa]
   cases decide (l[i].State = 3) <;> cases decide (l[k].State = 3) <;> cases decide (l[k].Thing = l[i].Thing) <;> rfl)
  (by rw [hlen]; simp only [VK, show decide ((i : Int) < (i : Int)) = false from decide_eq_false (by omega), cond_false])
theorem QgJ (l t : List Claim) (x : Claim) (a b : Int) (p : List Claim) (hp : p.length ≤ 2097152) :
  run (VH l x t a b p (ln p)) 0 = some (bif p.any (Qc7 x) then .ret false else .brk ()) := by
 exact Qfw p (Qc7 x) (r := false) (step := VH l x t a b p (ln p))
  (fun k hk => by
   have hc : decide (x.Thing = p[k].Thing) = decide (p[k].Thing = x.Thing) := by rw [decide_eq_decide]; exact eq_comm
   simp only [VH, Qc7, Qu hk, Qg hk, Qz hk, hc, QP (show (k : Int) < 9223372036854775807 by omega), cond_true, Qa]
   cases (decide (x.State = 3) && (decide (p[k].State = 3) && decide (p[k].Thing = x.Thing))) <;> rfl)
  (by simp only [VH, Qx (Nat.le_refl _), cond_false])
theorem QqJ (l : List Claim) (hl : l.length ≤ 2097152) : ∃ b, Vn l = some b ∧ Zd l = some b ∧ (b = true → l.length ≤ 20 ∧ ∀ i (h : i < l.length), 0 ≤ l[i].State ∧ l[i].State ≤ 3) := by
 obtain ⟨b, h1, h2, h3⟩ := QcE (n := l.length) (r := false) (s1 := Q1 l) (s2 := Xv l l (ln l)) (fun i hi _ => by
   have hsl : slB 0 (i : Int) (ln l) = true := Qkj (by omega)
   simp only [Q1, Xv, Qu hi, Qg hi, Qz hi, QP (show (i : Int) < 9223372036854775807 by omega), cond_true, Qa, Qf, Qb, Option.bind_some, Qdl l i hi hl, Qc1, hsl, QgJ l l l[i] (ln l) (i : Int) (l.take i) (by simp; omega)]
   generalize (l.take i).any (Qc7 l[i]) = q
   by_cases h0 : 0 < i
   ·simp only [show decide (0 < (i : Int)) = true from decide_eq_true (by omega), ZG h0 (by omega), Qg (show i - 1 < l.length by omega), cond_true, Qa]
    cases (decide (1 ≤ l[i].Id) && decide (l[i].Id ≤ 999)) <;> cases (decide (1 ≤ l[i].Who) && decide (l[i].Who ≤ 999)) <;> cases (decide (1 ≤ l[i].Thing) && decide (l[i].Thing ≤ 999)) <;> cases (decide (0 ≤ l[i].At) && decide (l[i].At ≤ 100000)) <;> cases (decide (0 ≤ l[i].State) && decide (l[i].State ≤ 3)) <;> cases decide (l[i].Id ≤ (gt l ((i - 1 : Nat) : Int)).Id) <;> cases q <;> first | exact ⟨true, rfl, rfl⟩ | exact ⟨false, rfl, rfl⟩
   ·simp only [show decide (0 < (i : Int)) = false from decide_eq_false (by omega), cond_false]
    cases (decide (1 ≤ l[i].Id) && decide (l[i].Id ≤ 999)) <;> cases (decide (1 ≤ l[i].Who) && decide (l[i].Who ≤ 999)) <;> cases (decide (1 ≤ l[i].Thing) && decide (l[i].Thing ≤ 999)) <;> cases (decide (0 ≤ l[i].At) && decide (l[i].At ≤ 100000)) <;> cases (decide (0 ≤ l[i].State) && decide (l[i].State ≤ 3)) <;> cases q <;> first | exact ⟨true, rfl, rfl⟩ | exact ⟨false, rfl, rfl⟩)
  (by simp only [Q1, Qx (Nat.le_refl _), cond_false]) (by simp only [Xv, Qx (Nat.le_refl _), cond_false])
 refine ⟨b && decide ((l.length : Int) ≤ 20), (Zm _ h1).1, (Zm _ h2).2, fun hb => ?_⟩
 simp only [Bool.and_eq_true, decide_eq_true_eq] at hb
 refine ⟨by omega, fun i hi => ?_⟩
 have hstep := (h3 hb.1 i hi).1
 simp only [Q1, Qu hi, Qg hi, Qz hi, cond_true, Qa, Qf, Option.bind_some] at hstep
 by_cases hst : (decide (0 ≤ l[i].State) && decide (l[i].State ≤ 3)) = true
 ·simpa using hst
 ·exfalso
  simp only [Bool.eq_false_iff.2 hst, Bool.not_false, cond_true] at hstep
  revert hstep
  cases (decide (1 ≤ l[i].Id) && decide (l[i].Id ≤ 999)) <;> cases (decide (1 ≤ l[i].Who) && decide (l[i].Who ≤ 999)) <;> cases (decide (1 ≤ l[i].Thing) && decide (l[i].Thing ≤ 999)) <;> cases (decide (0 ≤ l[i].At) && decide (l[i].At ≤ 100000)) <;> simp
theorem QmF (l : List Claim) (hl : l.length ≤ 1048576) : ∃ b, Vn l = some b ∧ Zd l = some b ∧ (b = true → l.length ≤ 20 ∧ ∀ i (h : i < l.length), 0 ≤ l[i].State ∧ l[i].State ≤ 3) := QqJ l (by omega)
end Go.Proofs.YtcdffihcfeajfaaGreat
