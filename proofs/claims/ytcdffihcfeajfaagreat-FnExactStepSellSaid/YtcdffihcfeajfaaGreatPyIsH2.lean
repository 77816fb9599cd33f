import Derived.Test.YtcdffihcfeajfaaGreatPyIsH1
namespace Go.Proofs.YtcdffihcfeajfaaGreat
open Go
set_option linter.unusedVariables false
set_option linter.unusedSimpArgs false
theorem Qc5 {α : Type} (l : List α) (i : Nat) : cut l 0 (i : Int) = l.take i := by simp [cut]
theorem Qlm {i n : Nat} (h : i ≤ n) : slB 0 (i : Int) (n : Int) = true := by unfold slB; simp; omega
def Qc3 (l : List Slot) (t : Int) : Int := match l.findIdx? (fun x => decide (x.Thing = t)) with | some i => (i : Int) | none => -1
theorem QhB (l : List Slot) (t : Int) (hl : l.length ≤ 1048576) : Xc l t = some (bif decide (t = 0) then -1 else Qc3 l t) := by
 have hi := ZA l (fun x => decide (x.Thing = t)) (fun i => (i : Int)) (step := Qy l t (ln l))
  (fun i hi => by
   simp only [Qy, Qa2, Option.bind_some, Qu hi, Qh hi, Qz hi, QS (show (i : Int) < 9223372036854775807 by omega), cond_true, Qa]
   cases decide (l[i].Thing = t) <;> rfl)
  (by simp only [Qy, Qx (Nat.le_refl _), cond_false])
 unfold Xc Q7 Qc3
 rw [hi]
 cases decide (t = 0) with
 | true => rfl
 | false => cases l.findIdx? (fun x => decide (x.Thing = t)) <;> rfl
theorem Qgy (l : List Slot) (t : Int) : (l.any (fun x => decide (x.Thing = t)) = false ∧ Qc3 l t = -1) ∨ ∃ k : Nat, ∃ hk : k < l.length, Qc3 l t = (k : Int) ∧ l[k].Thing = t ∧ l.any (fun x => decide (x.Thing = t)) = true := by
 unfold Qc3
 cases hf : l.findIdx? (fun x => decide (x.Thing = t)) with
 | none =>
  left
  refine ⟨?_, rfl⟩
  rw [List.any_eq_false]
  intro y hy
  have := List.findIdx?_eq_none_iff.1 hf y hy
  simpa using this
 | some i =>
  obtain ⟨hi, hp⟩ := QcQ hf
  right
  exact ⟨i, hi, rfl, by simpa using hp, List.any_eq_true.2 ⟨_, List.getElem_mem hi, hp⟩⟩
theorem Qvq (l : List Slot) (t : Int) (hl : l.length ≤ 1048576) (hid : ∀ x ∈ l, 1 ≤ x.Id) : ∃ c, Qbj l t = some c ∧ decide (c = 0) = !(!decide (t = 0) && l.any (fun x => decide (x.Thing = t))) := by
 unfold Qbj
 rw [QhB l t hl]
 by_cases ht : t = 0
 ·rw [decide_eq_true ht]; exact ⟨0, rfl, rfl⟩
 ·rw [decide_eq_false ht]
  simp only [cond_false, Option.bind_some]
  rcases Qgy l t with ⟨h1, h2⟩ | ⟨k, hk, h1, h2, h3⟩
  ·rw [h1, h2]; exact ⟨0, rfl, rfl⟩
  ·have hpos := hid l[k] (List.getElem_mem hk)
   rw [h1, h3, decide_eq_false (show ¬ (k : Int) < 0 by omega), Qh hk, Qz hk]
   refine ⟨l[k].Id, rfl, ?_⟩
   rw [decide_eq_false (by omega)]; rfl
theorem QdH (l : List Slot) (i : Nat) (hi : i < l.length) (hl : l.length ≤ 1048576) :
  run (V3 l (i : Int)) 0 = some (bif (!decide (l[i].Thing = 0) && (l.take i).any (fun x => decide (x.Thing = l[i].Thing))) then .ret false else .brk ()) := by
 have hlen : (l.take i).length = i := by simp; omega
 have hr := Qfv (l.take i) (fun x => !decide (l[i].Thing = 0) && decide (x.Thing = l[i].Thing)) (r := false) (step := V3 l (i : Int))
  (fun k hk => by
   rw [hlen] at hk
   have hkl : k < l.length := by omega
   have e : (l.take i)[k]'(by rw [hlen]; exact hk) = l[k] := by simp
   simp only [V3, e, show decide ((k : Int) < (i : Int)) = true from decide_eq_true (by omega), Qh hi, Qz hi, Qh hkl, Qz hkl, QS (show (k : Int) < 9223372036854775807 by omega), cond_true, Qa]
   cases decide (l[i].Thing = 0) <;> cases decide (l[k].Thing = l[i].Thing) <;> rfl)
  (by rw [hlen]; simp only [V3, show decide ((i : Int) < (i : Int)) = false from decide_eq_false (by omega), cond_false])
 rw [hr]
 congr 1
 cases decide (l[i].Thing = 0) with
 | true =>
  have : (l.take i).any (fun x => !true && decide (x.Thing = l[i].Thing)) = false := by rw [List.any_eq_false]; simp
  rw [this]; rfl
 | false => simp
theorem QmI (l : List Slot) (hl : l.length ≤ 1048576) : ∃ b, JQ l = some b ∧ JR l = some b ∧ (b = true → l.length ≤ 30 ∧ (∀ x ∈ l, 1 ≤ x.Id) ∧ ∀ i (h : i < l.length) (h0 : 0 < i), (l[i - 1]'(by omega)).Id < l[i].Id) := by
 have idOf : ∀ i (hi : i < l.length), Vs l (i : Int) = some (.inl ((i + 1 : Nat) : Int)) → 1 ≤ l[i].Id := by
  intro i hi hstep
  by_cases h : 1 ≤ l[i].Id
  ·exact h
  ·exfalso
   have e : (decide (1 ≤ l[i].Id) && decide (l[i].Id ≤ 99)) = false := by rw [decide_eq_false h]; rfl
   simp only [Vs, Qu hi, Qh hi, Qz hi, cond_true, Qa, Qf, Option.bind_some, e, Bool.not_false] at hstep
   simp at hstep
 obtain ⟨b, h1, h2, h3⟩ := QcE (n := l.length) (r := false) (s1 := Vs l) (s2 := X5 l l (ln l)) (fun i hi hpre => by
   have hids : ∀ x ∈ l.take i, 1 ≤ x.Id := by
    intro x hx
    obtain ⟨k, hk, rfl⟩ := List.getElem_of_mem hx
    have hk' : k < i := by simp at hk; omega
    simp only [List.getElem_take]
    exact idOf k (by omega) (hpre k hk')
   obtain ⟨c, c1, c2⟩ := Qvq (l.take i) l[i].Thing (by simp; omega) hids
   have hsl : slB 0 (i : Int) (ln l) = true := Qlm (by omega)
   simp only [Vs, X5, Qu hi, Qh hi, Qz hi, QS (show (i : Int) < 9223372036854775807 by omega), cond_true, Qa, Qf, Qb, Option.bind_some, QdH l i hi hl, Qc5, c1, c2, hsl]
   generalize (!decide (l[i].Thing = 0) && (l.take i).any (fun x => decide (x.Thing = l[i].Thing))) = q
   by_cases h0 : 0 < i
   ·simp only [show decide (0 < (i : Int)) = true from decide_eq_true (by omega), ZD h0 (by omega), Qh (show i - 1 < l.length by omega), cond_true, Qa]
    cases (decide (1 ≤ l[i].Id) && decide (l[i].Id ≤ 99)) <;> cases (decide (1 ≤ l[i].Size) && decide (l[i].Size ≤ 50)) <;> cases (decide (0 ≤ l[i].Thing) && decide (l[i].Thing ≤ 999)) <;> cases decide (l[i].Id ≤ (gt l ((i - 1 : Nat) : Int)).Id) <;> cases q <;> first | exact ⟨true, rfl, rfl⟩ | exact ⟨false, rfl, rfl⟩
   ·simp only [show decide (0 < (i : Int)) = false from decide_eq_false (by omega), cond_false]
    cases (decide (1 ≤ l[i].Id) && decide (l[i].Id ≤ 99)) <;> cases (decide (1 ≤ l[i].Size) && decide (l[i].Size ≤ 50)) <;> cases (decide (0 ≤ l[i].Thing) && decide (l[i].Thing ≤ 999)) <;> cases q <;> first | exact ⟨true, rfl, rfl⟩ | exact ⟨false, rfl, rfl⟩)
  (by simp only [Vs, Qx (Nat.le_refl _), cond_false]) (by simp only [X5, Qx (Nat.le_refl _), cond_false])
 refine ⟨b && decide ((l.length : Int) ≤ 30), (Zp _ h1).1, (Zp _ h2).2, fun hb => ?_⟩
 simp only [Bool.and_eq_true, decide_eq_true_eq] at hb
 refine ⟨by omega, fun x hx => ?_, fun i hi h0 => ?_⟩
 ·obtain ⟨k, hk, rfl⟩ := List.getElem_of_mem hx
  exact idOf k hk (h3 hb.1 k hk).1
 ·have hstep := (h3 hb.1 i hi).1
  simp only [Vs, Qu hi, Qh hi, Qz hi, cond_true, Qa, Qf, QdH l i hi hl, Option.bind_some, show decide (0 < (i : Int)) = true from decide_eq_true (by omega), ZD h0 (by omega), Qh (show i - 1 < l.length by omega), Qz (show i - 1 < l.length by omega)] at hstep
  by_cases hlt : l[i].Id ≤ (l[i - 1]'(by omega)).Id
  ·exfalso
   rw [decide_eq_true hlt] at hstep
   revert hstep
   cases (decide (1 ≤ l[i].Id) && decide (l[i].Id ≤ 99)) <;> cases (decide (1 ≤ l[i].Size) && decide (l[i].Size ≤ 50)) <;> cases (decide (0 ≤ l[i].Thing) && decide (l[i].Thing ≤ 999)) <;> simp
  ·omega
theorem QoJ (l : List Slot) (hl : l.length ≤ 1048576) : ∃ b, JQ l = some b ∧ JR l = some b ∧ (b = true → l.length ≤ 30 ∧ ∀ x ∈ l, 1 ≤ x.Id) := by
 obtain ⟨b, h1, h2, h3⟩ := QmI l hl
 exact ⟨b, h1, h2, fun h => ⟨(h3 h).1, (h3 h).2.1⟩⟩
def Qc7 (x y : Claim) : Bool := decide (x.State = 3) && (decide (y.State = 3) && decide (y.Thing = x.Thing))
theorem Qdf (l : List Claim) (i : Nat) (hi : i < l.length) (hl : l.length ≤ 2097152) :
  run (VH l (i : Int) l[i]) 0 = some (bif (l.take i).any (Qc7 l[i]) then .ret false else .brk ()) := by
 have hlen : (l.take i).length = i := by simp; omega
 exact Qfv (l.take i) (Qc7 l[i]) (r := false) (step := VH l (i : Int) l[i])
  (fun k hk => by
   rw [hlen] at hk
   have hkl : k < l.length := by omega
   have e : (l.take i)[k]'(by rw [hlen]; exact hk) = l[k] := by simp
   simp only [VH, Qc7, e, show decide ((k : Int) < (i : Int)) = true from decide_eq_true (by omega), Qh hkl, Qz hkl, QS (show (k : Int) < 9223372036854775807 by omega), cond_true, Qa]
   cases decide (l[i].State = 3) <;> cases decide (l[k].State = 3) <;> cases decide (l[k].Thing = l[i].Thing) <;> rfl)
  (by rw [hlen]; simp only [VH, show decide ((i : Int) < (i : Int)) = false from decide_eq_false (by omega), cond_false])
theorem Qhc (l t : List Claim) (x : Claim) (a b : Int) (p : List Claim) (hp : p.length ≤ 2097152) :
  run (VI l x t a b p (ln p)) 0 = some (bif p.any (Qc7 x) then .ret false else .brk ()) := by
 exact Qfv p (Qc7 x) (r := false) (step := VI l x t a b p (ln p))
  (fun k hk => by
   have hc : decide (x.Thing = p[k].Thing) = decide (p[k].Thing = x.Thing) := by rw [decide_eq_decide]; exact eq_comm
   simp only [VI, Qc7, Qu hk, Qh hk, Qz hk, hc, QS (show (k : Int) < 9223372036854775807 by omega), cond_true, Qa]
   cases (decide (x.State = 3) && (decide (p[k].State = 3) && decide (p[k].Thing = x.Thing))) <;> rfl)
  (by simp only [VI, Qx (Nat.le_refl _), cond_false])
theorem Qqf (l : List Claim) (hl : l.length ≤ 2097152) : ∃ b, Vn l = some b ∧ Ze l = some b ∧ (b = true → l.length ≤ 20 ∧ ∀ i (h : i < l.length), 0 ≤ l[i].State ∧ l[i].State ≤ 3) := by
 obtain ⟨b, h1, h2, h3⟩ := QcE (n := l.length) (r := false) (s1 := Q1 l) (s2 := Xx l l (ln l)) (fun i hi _ => by
   have hsl : slB 0 (i : Int) (ln l) = true := Qlm (by omega)
   simp only [Q1, Xx, Qu hi, Qh hi, Qz hi, QS (show (i : Int) < 9223372036854775807 by omega), cond_true, Qa, Qf, Qb, Option.bind_some, Qdf l i hi hl, Qc5, hsl, Qhc l l l[i] (ln l) (i : Int) (l.take i) (by simp; omega)]
   generalize (l.take i).any (Qc7 l[i]) = q
   by_cases h0 : 0 < i
   ·simp only [show decide (0 < (i : Int)) = true from decide_eq_true (by omega), ZD h0 (by omega), Qh (show i - 1 < l.length by omega), cond_true, Qa]
    cases (decide (1 ≤ l[i].Id) && decide (l[i].Id ≤ 999)) <;> cases (decide (1 ≤ l[i].Who) && decide (l[i].Who ≤ 999)) <;> cases (decide (1 ≤ l[i].Thing) && decide (l[i].Thing ≤ 999)) <;> cases (decide (0 ≤ l[i].At) && decide (l[i].At ≤ 100000)) <;> cases (decide (0 ≤ l[i].State) && decide (l[i].State ≤ 3)) <;> cases decide (l[i].Id ≤ (gt l ((i - 1 : Nat) : Int)).Id) <;> cases q <;> first | exact ⟨true, rfl, rfl⟩ | exact ⟨false, rfl, rfl⟩
   ·simp only [show decide (0 < (i : Int)) = false from decide_eq_false (by omega), cond_false]
    cases (decide (1 ≤ l[i].Id) && decide (l[i].Id ≤ 999)) <;> cases (decide (1 ≤ l[i].Who) && decide (l[i].Who ≤ 999)) <;> cases (decide (1 ≤ l[i].Thing) && decide (l[i].Thing ≤ 999)) <;> cases (decide (0 ≤ l[i].At) && decide (l[i].At ≤ 100000)) <;> cases (decide (0 ≤ l[i].State) && decide (l[i].State ≤ 3)) <;> cases q <;> first | exact ⟨true, rfl, rfl⟩ | exact ⟨false, rfl, rfl⟩)
  (by simp only [Q1, Qx (Nat.le_refl _), cond_false]) (by simp only [Xx, Qx (Nat.le_refl _), cond_false])
 refine ⟨b && decide ((l.length : Int) ≤ 20), (Zp _ h1).1, (Zp _ h2).2, fun hb => ?_⟩
 simp only [Bool.and_eq_true, decide_eq_true_eq] at hb
 refine ⟨by omega, fun i hi => ?_⟩
 have hstep := (h3 hb.1 i hi).1
 simp only [Q1, Qu hi, Qh hi, Qz hi, cond_true, Qa, Qf, Option.bind_some] at hstep
 by_cases hst : (decide (0 ≤ l[i].State) && decide (l[i].State ≤ 3)) = true
 ·simpa using hst
 ·exfalso
  simp only [Bool.eq_false_iff.2 hst, Bool.not_false, cond_true] at hstep
  revert hstep
  cases (decide (1 ≤ l[i].Id) && decide (l[i].Id ≤ 999)) <;> cases (decide (1 ≤ l[i].Who) && decide (l[i].Who ≤ 999)) <;> cases (decide (1 ≤ l[i].Thing) && decide (l[i].Thing ≤ 999)) <;> cases (decide (0 ≤ l[i].At) && decide (l[i].At ≤ 100000)) <;> simp
theorem Qmr (l : List Claim) (hl : l.length ≤ 1048576) : ∃ b, Vn l = some b ∧ Ze l = some b ∧ (b = true → l.length ≤ 20 ∧ ∀ i (h : i < l.length), 0 ≤ l[i].State ∧ l[i].State ≤ 3) := Qqf l (by omega)
end Go.Proofs.YtcdffihcfeajfaaGreat
