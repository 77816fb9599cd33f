import Derived.Test.YtcdffihcfeajfaaGreatFam
namespace Go.Proofs.YtcdffihcfeajfaaGreat
open Go
set_option linter.unusedVariables false
set_option linter.unusedSimpArgs false
section
variable {ρ σ : Type}
theorem QcE {n : Nat} {r : ρ} {s1 s2 : Int → Option (Int ⊕ (Fl ρ Unit))}
  (h : ∀ i, i < n → (∀ j, j < i → s1 (j : Int) = some (.inl ((j + 1 : Nat) : Int))) → ∃ b, s1 (i : Int) = some (bif b then .inr (.ret r) else .inl ((i + 1 : Nat) : Int)) ∧ s2 (i : Int) = some (bif b then .inr (.ret r) else .inl ((i + 1 : Nat) : Int)))
  (e1 : s1 (n : Int) = some (.inr (.brk ()))) (e2 : s2 (n : Int) = some (.inr (.brk ()))) :
  ∃ b, run s1 0 = some (bif b then .brk () else .ret r) ∧ run s2 0 = some (bif b then .brk () else .ret r) ∧ (b = true → ∀ i, i < n → s1 (i : Int) = some (.inl ((i + 1 : Nat) : Int)) ∧ s2 (i : Int) = some (.inl ((i + 1 : Nat) : Int))) := by
 have key : ∀ (m i : Nat), i + m = n → (∀ j, j < i → s1 (j : Int) = some (.inl ((j + 1 : Nat) : Int))) → ∃ b, run s1 (i : Int) = some (bif b then .brk () else .ret r) ∧ run s2 (i : Int) = some (bif b then .brk () else .ret r) ∧ (b = true → ∀ j, i ≤ j → j < n → s1 (j : Int) = some (.inl ((j + 1 : Nat) : Int)) ∧ s2 (j : Int) = some (.inl ((j + 1 : Nat) : Int))) := by
  intro m
  induction m with
  | zero =>
   intro i hi _
   have : i = n := by omega
   subst this
   exact ⟨true, by rw [Qs, e1]; rfl, by rw [Qs, e2]; rfl, fun _ j h1 h2 => by omega⟩
  | succ m ih =>
   intro i hi hpre
   obtain ⟨b, h1, h2⟩ := h i (by omega) hpre
   cases b with
   | true => exact ⟨false, by rw [Qs, h1]; rfl, by rw [Qs, h2]; rfl, fun h => by cases h⟩
   | false =>
    obtain ⟨b, q1, q2, q3⟩ := ih (i + 1) (by omega) (fun j hj => by
     by_cases hji : j = i
     ·subst hji; exact h1
     ·exact hpre j (by omega))
    refine ⟨b, by rw [Qs, h1]; exact q1, by rw [Qs, h2]; exact q2, fun hb j hij hj => ?_⟩
    by_cases hji : i = j
    ·subst hji; exact ⟨h1, h2⟩
    ·exact q3 hb j (by omega) hj
 obtain ⟨b, q1, q2, q3⟩ := key n 0 (by omega) (fun j hj => by omega)
 exact ⟨b, q1, q2, fun hb i hi => q3 hb i (by omega) hi⟩
theorem QnP {n : Nat} {step : σ × Int → Option ((σ × Int) ⊕ ρ)} {fin : σ → ρ} (Q : Nat → σ → Prop)
  (h1 : ∀ i v, i < n → Q i v → ∃ v', step (v, (i : Int)) = some (.inl (v', ((i + 1 : Nat) : Int))) ∧ Q (i + 1) v') (h2 : ∀ v, Q n v → step (v, (n : Int)) = some (.inr (fin v))) :
  ∀ v, Q 0 v → ∃ v', run step (v, 0) = some (fin v') ∧ Q n v' := by
 have key : ∀ (m i : Nat) (v : σ), i + m = n → Q i v → ∃ v', run step (v, (i : Int)) = some (fin v') ∧ Q n v' := by
  intro m
  induction m with
  | zero =>
   intro i v hi hq
   have : i = n := by omega
   subst this
   exact ⟨v, by rw [Qs, h2 v hq]; rfl, hq⟩
  | succ m ih =>
   intro i v hi hq
   obtain ⟨v', q1, q2⟩ := h1 i v (by omega) hq
   rw [Qs, q1]
   exact ih (i + 1) v' (by omega) q2
 intro v hv
 exact key n 0 v (by omega) hv
end
theorem Zm {n : Nat} {k : Int} {b : Bool} (x : Option (Fl Bool Unit)) (hx : x = some (bif b then .brk () else .ret false)) :
  x.bind (evO (fun r => some r) fun _ => some (decide ((n : Int) ≤ k))) = some (b && decide ((n : Int) ≤ k)) ∧
   (bif decide (k < (n : Int)) then some false else x.bind (evO (fun r => some r) fun _ => some true)) = some (b && decide ((n : Int) ≤ k)) := by
 subst hx
 by_cases h : (n : Int) ≤ k
 ·rw [decide_eq_true h, decide_eq_false (show ¬ k < (n : Int) by omega)]
  cases b <;> exact ⟨rfl, rfl⟩
 ·rw [decide_eq_false h, decide_eq_true (show k < (n : Int) by omega)]
  cases b <;> exact ⟨rfl, rfl⟩
theorem ZG {i : Nat} (h0 : 0 < i) (h : (i : Int) ≤ 9223372036854775807) : w64 ((i : Int) - 1) = ((i - 1 : Nat) : Int) := by rw [Vd] <;> omega
theorem Qi4 (l : List Entry) (hl : l.length ≤ 2097152) : ∃ b, XN l = some b ∧ XK l = some b ∧
  (b = true → l.length ≤ 100 ∧ ∀ i (h : i < l.length), ∀ (h' : 0 < i), (l[i - 1]'(by omega)).At ≤ l[i].At) := by
 obtain ⟨b, h1, h2, h3⟩ := QcE (n := l.length) (r := false) (s1 := Vz l) (s2 := VV l l (ln l)) (fun i hi _ => by
   simp only [Vz, VV, Qu hi, Qg hi, Qz hi, QP (show (i : Int) < 9223372036854775807 by omega), cond_true, Qa, Qf, Qb, Option.bind_some]
   by_cases h0 : 0 < i
   ·simp only [show decide (0 < (i : Int)) = true from decide_eq_true (by omega), ZG h0 (by omega), Qg (show i - 1 < l.length by omega), cond_true, Qa]
    cases (decide (0 ≤ l[i].From) && decide (l[i].From ≤ 999)) <;> cases (decide (0 ≤ l[i].To) && decide (l[i].To ≤ 999)) <;> cases decide (l[i].From = l[i].To) <;> cases (decide (1 ≤ l[i].Cents) && decide (l[i].Cents ≤ 10000000)) <;> cases (decide (0 ≤ l[i].At) && decide (l[i].At ≤ 100000)) <;> cases decide (l[i].At < (gt l ((i - 1 : Nat) : Int)).At) <;> first | exact ⟨true, rfl, rfl⟩ | exact ⟨false, rfl, rfl⟩
   ·simp only [show decide (0 < (i : Int)) = false from decide_eq_false (by omega), cond_false]
    cases (decide (0 ≤ l[i].From) && decide (l[i].From ≤ 999)) <;> cases (decide (0 ≤ l[i].To) && decide (l[i].To ≤ 999)) <;> cases decide (l[i].From = l[i].To) <;> cases (decide (1 ≤ l[i].Cents) && decide (l[i].Cents ≤ 10000000)) <;> cases (decide (0 ≤ l[i].At) && decide (l[i].At ≤ 100000)) <;> first | exact ⟨true, rfl, rfl⟩ | exact ⟨false, rfl, rfl⟩)
  (by simp only [Vz, Qx (Nat.le_refl _), cond_false]) (by simp only [VV, Qx (Nat.le_refl _), cond_false])
 refine ⟨b && decide ((l.length : Int) ≤ 100), (Zm _ h1).1, (Zm _ h2).2, fun hb => ?_⟩
 simp only [Bool.and_eq_true, decide_eq_true_eq] at hb
 refine ⟨by omega, fun i hi h0 => ?_⟩
 have hstep := (h3 hb.1 i hi).1
 simp only [Vz, Qu hi, Qg hi, Qz hi, cond_true, Qa, Qf, Option.bind_some, show decide (0 < (i : Int)) = true from decide_eq_true (by omega), ZG h0 (by omega), Qg (show i - 1 < l.length by omega), Qz (show i - 1 < l.length by omega)] at hstep
 by_cases hlt : l[i].At < (l[i - 1]'(by omega)).At
 ·rw [decide_eq_true hlt] at hstep
  exfalso
  revert hstep
  cases (decide (0 ≤ l[i].From) && decide (l[i].From ≤ 999)) <;> cases (decide (0 ≤ l[i].To) && decide (l[i].To ≤ 999)) <;> cases decide (l[i].From = l[i].To) <;> cases (decide (1 ≤ l[i].Cents) && decide (l[i].Cents ≤ 10000000)) <;> cases (decide (0 ≤ l[i].At) && decide (l[i].At ≤ 100000)) <;> simp
 ·omega
theorem Qkq (l : List Entry) (hl : l.length ≤ 1048576) : ∃ b, XN l = some b ∧ XK l = some b ∧
  (b = true → l.length ≤ 100 ∧ ∀ i (h : i < l.length), ∀ (h' : 0 < i), (l[i - 1]'(by omega)).At ≤ l[i].At) := Qi4 l (by omega)
end Go.Proofs.YtcdffihcfeajfaaGreat
