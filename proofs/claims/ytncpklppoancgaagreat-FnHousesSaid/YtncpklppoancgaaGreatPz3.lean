import Derived.Test.YtncpklppoancgaaGreatPz2
import Derived.Test.YtncpklppoancgaaGreatPz1
import Derived.Test.YtncpklppoancgaaGreatFn
import Derived.Test.YtncpklppoancgaaGreatPl
import Derived.Test.YtncpklppoancgaaGreatFam
namespace Go.Proofs.YtncpklppoancgaaGreat
open Go
set_option linter.unusedVariables false
set_option linter.unusedSimpArgs false
end Go.Proofs.YtncpklppoancgaaGreat
namespace Go.Proofs.YtncpklppoancgaaGreat
open Go
set_option linter.unusedVariables false
set_option linter.unusedSimpArgs false
theorem Quf (l : List Slot) (x : Thing) (hl : l.length ≤ 1048576) : ∃ r, Jt l x = some r ∧ QcK l x = some r ∧ r.1.length = l.length ∧ (r.2 = true → 1 ≤ x.Id ∧ ∃ y ∈ r.1, y.Thing = x.Id) := by
 obtain ⟨c, c1, c2, c3⟩ := Qj9 l hl
 obtain ⟨t, t1, t2, t3⟩ := QlK x
 have hrm : rm (0 + l.length) 24 = true := Xk (by omega) (by omega)
 obtain ⟨v, hv, hq⟩ := QhE (n := l.length) (step := QG l x.Size) (fin := fun v => v) (fun i v => v = -1 ∨ ∃ j : Nat, j < i ∧ j < l.length ∧ v = (j : Int))
  (fun i v hi hv => by
   have hw := QU (show (i : Int) < 9223372036854775807 by omega)
   have hcase : QG l x.Size (v, (i : Int)) = some (.inl ((i : Int), ((i + 1 : Nat) : Int))) ∨ QG l x.Size (v, (i : Int)) = some (.inl (v, ((i + 1 : Nat) : Int))) := by
    rcases hv with rfl | ⟨j, hj, hjl, rfl⟩
    ·simp only [QG, QF hi, Qh hi, Qu hi, hw, cond_true, Qa, show decide ((-1 : Int) < 0) = true from rfl]
     cases decide (l[i].Thing = 0) <;> cases decide (x.Size ≤ l[i].Size) <;> first | exact .inl rfl | exact .inr rfl
    ·simp only [QG, QF hi, Qh hi, Qu hi, Qh hjl, Qu hjl, hw, cond_true, cond_false, Qa, decide_eq_false (show ¬ (j : Int) < 0 by omega)]
     cases decide (l[i].Thing = 0) <;> cases decide (x.Size ≤ l[i].Size) <;> cases decide (l[i].Size < l[j].Size) <;> first | exact .inl rfl | exact .inr rfl
   rcases hcase with h | h
   ·exact ⟨_, h, .inr ⟨i, by omega, hi, rfl⟩⟩
   ·refine ⟨_, h, ?_⟩
    rcases hv with h' | ⟨j, hj, hjl, h'⟩
    ·exact .inl h'
    ·exact .inr ⟨j, by omega, hjl, h'⟩)
  (fun v _ => by simp only [QG, QH (Nat.le_refl _), cond_false]) (-1) (.inl rfl)
 have hf : QcY l x.Size = some v := by
  unfold QcY
  rw [show Qbo l x.Size l (ln l) = QG l x.Size from by funext ⟨k, i⟩; simp only [Qbo, QG]; cases decide (i < ln l) <;> cases inb l i <;> rfl, hv]; rfl
 have hsf : Jp l x.Size = some (bif decide (v < 0) then 0 else (gt l v).Id) := by
  unfold Jp
  rw [hv]
  rcases hq with rfl | ⟨j, _, hjl, rfl⟩
  ·rfl
  ·simp only [Option.bind_some, decide_eq_false (show ¬ (j : Int) < 0 by omega), cond_false, Qh hjl, Qa]
 unfold Jt QcK VT
 simp only [hrm, Qa, c1, c2, t1, t2, hf, hsf, QuO l x.Id hl, QfQ l x.Id hl, Option.bind_some]
 cases c with
 | false => exact ⟨(l, false), rfl, rfl, rfl, fun h => by cases h⟩
 | true =>
  obtain ⟨s1, s2, s3⟩ := c3 rfl
  cases t with
  | false => exact ⟨(l, false), rfl, rfl, rfl, fun h => by cases h⟩
  | true =>
   rcases hq with rfl | ⟨k, _, hk, rfl⟩
   ·exact ⟨(l, false), rfl, rfl, rfl, fun h => by cases h⟩
   ·have hid : 1 ≤ l[k].Id := s2 _ (List.getElem_mem hk)
    have hsame : (!decide ((bif decide (x.Id = 0) || decide (Qan l x.Id < 0) then (0 : Int) else (gt l (Qan l x.Id)).Id) = 0)) = decide (0 ≤ (bif decide (x.Id = 0) then (-1 : Int) else Qan l x.Id)) := by
     cases decide (x.Id = 0) with
     | true => rfl
     | false =>
      rcases Qe5 l x.Id with ⟨_, h2⟩ | ⟨j, hj, h2, _, _⟩
      ·rw [h2]; rfl
      ·rw [h2]
       have := s2 _ (List.getElem_mem hj)
       simp only [Bool.false_or, decide_eq_false (show ¬ (j : Int) < 0 by omega), cond_false, Qu hj, decide_eq_false (show ¬ l[j].Id = 0 by omega), decide_eq_true (show (0 : Int) ≤ (j : Int) by omega)]; rfl
    simp only [Bool.not_true, cond_false, decide_eq_false (show ¬ (k : Int) < 0 by omega), Qu hk, Qh hk, Qa, decide_eq_false (show ¬ l[k].Id = 0 by omega), Int.toNat_natCast, Option.bind_some, hsame]
    cases decide (0 ≤ (bif decide (x.Id = 0) then (-1 : Int) else Qan l x.Id)) with
    | true => exact ⟨(l, false), rfl, rfl, rfl, fun h => by cases h⟩
    | false =>
     have hr := QbI (step := Va x l[k].Id) (fun i => (if i ≤ k then l else l.set k ⟨l[k].Id, l[k].Size, x.Id⟩, (i : Int))) (r := l.set k ⟨l[k].Id, l[k].Size, x.Id⟩) l.length (fun i hi => by
       have hw := QU (show (i : Int) < 9223372036854775807 by omega)
       by_cases hik : i < k
       ·have hne : ¬ l[i].Id = l[k].Id := fun e => by have := Qih l s3 i k hi hk e; omega
        simp only [Va, if_pos (show i ≤ k by omega), if_pos (show i + 1 ≤ k by omega), QF hi, Qh hi, Qu hi, hw, decide_eq_false hne, cond_true, cond_false, Qa]
       ·by_cases hek : i = k
        ·subst hek
         simp only [Va, if_pos (Nat.le_refl i), if_neg (show ¬ i + 1 ≤ i by omega), QF hi, Qh hi, Qu hi, hw, decide_true, cond_true, Qa, Int.toNat_natCast]
        ·have hne : ¬ l[i].Id = l[k].Id := fun e => by have := Qih l s3 i k hi hk e; omega
         have hi' : i < (l.set k ⟨l[k].Id, l[k].Size, x.Id⟩).length := by rw [List.length_set]; exact hi
         have hg : gt (l.set k ⟨l[k].Id, l[k].Size, x.Id⟩) (i : Int) = l[i] := by rw [Qy8 l k _ i hi, if_neg hek, Qu hi]
         simp only [Va, if_neg (show ¬ i ≤ k by omega), if_neg (show ¬ i + 1 ≤ k by omega), QF hi', Qh hi', hg, hw, decide_eq_false hne, cond_true, cond_false, Qa])
      (by
       simp only [Va, if_neg (show ¬ l.length ≤ k by omega)]
       rw [show decide ((l.length : Int) < ln (l.set k ⟨l[k].Id, l[k].Size, x.Id⟩)) = false from decide_eq_false (by rw [Qr, List.length_set]; omega)]
       rfl)
     simp only [cond_false, show run (Va x l[k].Id) (l, 0) = some (l.set k ⟨l[k].Id, l[k].Size, x.Id⟩) from hr, Option.bind_some]
     exact ⟨_, rfl, rfl, List.length_set, fun _ => ⟨t3 rfl, _, List.mem_iff_getElem.2 ⟨k, by simpa using hk, List.getElem_set_self (by simpa using hk)⟩, rfl⟩⟩
theorem QwK (l : List Slot) (x : Thing) (hl : l.length ≤ 1048576) : ∃ r, Jt l x = some r ∧ QcK l x = some r ∧ r.1.length = l.length := by
 obtain ⟨r, r1, r2, r3, _⟩ := Quf l x hl
 exact ⟨r, r1, r2, r3⟩
end Go.Proofs.YtncpklppoancgaaGreat
namespace Go.Proofs.YtncpklppoancgaaGreat
open Go
set_option linter.unusedVariables false
set_option linter.unusedSimpArgs false
theorem Qd9 (l : List Claim) (hl : l.length ≤ 2097152) (h : QP l = some true) : ∀ i (hi : i < l.length) (h0 : 0 < i), (l[i - 1]'(by omega)).Id < l[i].Id := by
 intro i hi h0
 have ho := (QhU l h hl).2 i hi
 unfold QbO at ho
 simp only [Bool.and_eq_true, Bool.or_eq_true, Qu hi, Qu (show i - 1 < l.length by omega)] at ho
 have := ho.2.2.2.2.2.1
 simp at this
 omega
theorem Qse {α : Type} [Inhabited α] (key : α → Int) (l : List α) (k : Nat) (hk : k ≤ l.length) (x : α) (up : ∀ i (hi : i < (V3 l (k : Int) [x]).length) (h0 : 0 < i), key ((V3 l (k : Int) [x])[i - 1]'(by omega)) < key (V3 l (k : Int) [x])[i]) (j : Nat) (hj : j < l.length) : if j < k then key l[j] < key x else key x < key l[j] := by
 have hlen := QhN l k hk x
 have hu := QpX (n := (V3 l (k : Int) [x]).length) (fun i => key (gt (V3 l (k : Int) [x]) (i : Int))) (fun i h1 h2 => by
  show key (gt (V3 l (k : Int) [x]) ((i - 1 : Nat) : Int)) < key (gt (V3 l (k : Int) [x]) (i : Int))
  rw [Qu h1, Qu (show i - 1 < (V3 l (k : Int) [x]).length by omega)]; exact up i h1 h2)
 have g1 : gt (V3 l (k : Int) [x]) (k : Int) = x := by
  have hlt : k < (V3 l (k : Int) [x]).length := by omega
  rw [Qu hlt]
  have := QnQ l k hk x
  rw [List.getElem?_eq_getElem hlt] at this
  exact Option.some.inj this
 have hidx : (if j < k then j else j + 1) < (V3 l (k : Int) [x]).length := by split <;> omega
 have g2 : gt (V3 l (k : Int) [x]) ((if j < k then j else j + 1 : Nat) : Int) = l[j] := by
  rw [Qu hidx]
  have := QpS l k hk x j hj
  rw [List.getElem?_eq_getElem hidx] at this
  exact Option.some.inj this
 by_cases h : j < k
 ·have := hu k (if j < k then j else j + 1) (by rw [if_pos h]; exact h) (by omega)
  simp only [g1, g2] at this; rw [if_pos h]; exact this
 ·have := hu (if j < k then j else j + 1) k (by rw [if_neg h]; omega) hidx
  simp only [g1, g2] at this; rw [if_neg h]; exact this
theorem QvE {α : Type} [Inhabited α] (key : α → Int) (l : List α) (k1 k2 : Nat) (h1 : k1 ≤ l.length) (h2 : k2 ≤ l.length) (x : α)
  (a1 : ∀ j (hj : j < l.length), k1 ≤ j → ¬ key l[j] < key x) (a2 : ∀ (h : 0 < k1), key (l[k1 - 1]'(by omega)) < key x)
  (b1 : ∀ j (hj : j < l.length), j < k2 → key l[j] < key x) (b2 : ∀ (h : k2 < l.length), ¬ key l[k2] < key x)
  (up : (∀ i (hi : i < (V3 l (k1 : Int) [x]).length) (h0 : 0 < i), key ((V3 l (k1 : Int) [x])[i - 1]'(by omega)) < key (V3 l (k1 : Int) [x])[i]) ∨ (∀ i (hi : i < (V3 l (k2 : Int) [x]).length) (h0 : 0 < i), key ((V3 l (k2 : Int) [x])[i - 1]'(by omega)) < key (V3 l (k2 : Int) [x])[i])) : k1 = k2 := by
 rcases up with up | up
 ·have hj := Qse key l k1 h1 x up
  by_cases h : k1 < k2
  ·exact absurd (b1 k1 (by omega) h) (a1 k1 (by omega) (Nat.le_refl _))
  ·by_cases h' : k2 < k1
   ·have := hj k2 (by omega)
    rw [if_pos h'] at this
    exact absurd this (b2 (by omega))
   ·omega
 ·have hj := Qse key l k2 h2 x up
  by_cases h : k1 < k2
  ·exact absurd (b1 k1 (by omega) h) (a1 k1 (by omega) (Nat.le_refl _))
  ·by_cases h' : k2 < k1
   ·have h3 := hj (k1 - 1) (by omega)
    rw [if_neg (by omega)] at h3
    have h4 := a2 (by omega)
    omega
   ·omega
theorem Qry {n : Nat} (p : Nat → Bool) {step : Int → Option (Int ⊕ Int)} (h1 : ∀ i, i < n → step (i : Int) = some (bif p i then .inl ((i + 1 : Nat) : Int) else .inr (i : Int))) (h2 : step (n : Int) = some (.inr (n : Int))) : ∃ k : Nat, k ≤ n ∧ run step 0 = some (k : Int) ∧ (∀ j, j < k → p j = true) ∧ (k < n → p k = false) := by
 have key : ∀ (m i : Nat), i + m = n → (∀ j, j < i → p j = true) → ∃ k : Nat, k ≤ n ∧ run step (i : Int) = some (k : Int) ∧ (∀ j, j < k → p j = true) ∧ (k < n → p k = false) := by
  intro m
  induction m with
  | zero =>
   intro i hi hp
   have : i = n := by omega
   subst this
   exact ⟨i, Nat.le_refl _, by rw [Qi, h2]; rfl, hp, fun h => by omega⟩
  | succ m ih =>
   intro i hi hp'
   cases hp : p i with
   | false => exact ⟨i, by omega, by rw [Qi, h1 i (by omega), hp]; rfl, hp', fun _ => hp⟩
   | true =>
    obtain ⟨k, k1, k2, k3⟩ := ih (i + 1) (by omega) (fun j hj => by
     by_cases hji : j = i
     ·subst hji; exact hp
     ·exact hp' j (by omega))
    exact ⟨k, k1, by rw [Qi, h1 i (by omega), hp]; exact k2, k3⟩
 exact key n 0 (by omega) (fun j hj => by omega)
def Z7 (l : List Claim) (id : Int) : Nat → Nat
 | 0 => 0
 | n + 1 => bif decide ((gt l (n : Int)).Id < id) then n + 1 else Z7 l id n
theorem Qkh (l : List Claim) (id : Int) : ∀ n, Z7 l id n ≤ n
 | 0 => Nat.le_refl _
 | n + 1 => by
  have := Qkh l id n
  unfold Z7
  cases decide ((gt l (n : Int)).Id < id) <;> simp <;> omega
theorem Qkc (l : List Claim) (id : Int) : ∀ n j, Z7 l id n ≤ j → j < n → ¬ (gt l (j : Int)).Id < id
 | 0, j, _, h => by omega
 | n + 1, j, h1, h2 => by
  unfold Z7 at h1
  cases hd : decide ((gt l (n : Int)).Id < id) with
  | true => rw [hd] at h1; simp at h1; omega
  | false =>
   rw [hd] at h1
   by_cases hj : j = n
   ·subst hj; exact of_decide_eq_false hd
   ·exact Qkc l id n j h1 (by omega)
theorem Qj4 (l : List Claim) (id : Int) : ∀ n, 0 < Z7 l id n → (gt l ((Z7 l id n - 1 : Nat) : Int)).Id < id
 | 0, h => by simp [Z7] at h
 | n + 1, h => by
  unfold Z7 at h ⊢
  cases hd : decide ((gt l (n : Int)).Id < id) with
  | true => simp only [cond_true, Nat.add_sub_cancel]; exact of_decide_eq_true hd
  | false => rw [hd] at h; exact Qj4 l id n h
theorem Qt4 (l : List Claim) (x : Claim) (hl : l.length ≤ 1048576) : ∃ r, XK l x = some r ∧ QeG l x = some r ∧ r.1.length ≤ 1048576 ∧
  (r.2 = true → ∃ k : Nat, k ≤ l.length ∧ r.1 = V3 l (k : Int) [x] ∧ ZL r.1 x.Id = (k : Int) ∧ (∀ j (hj : j < l.length), j < k → l[j].Id < x.Id) ∧ (∀ j (hj : j < l.length), k ≤ j → ¬ l[j].Id < x.Id)) := by
 have hs := QbI (step := V2 l x) (fun i => (((Z7 l x.Id i : Nat) : Int), (!decide (x.State = 0)) || (l.take i).any (fun y => decide (y.Who = x.Who) && decide (y.Thing = x.Thing)), (i : Int)))
  (r := (((Z7 l x.Id l.length : Nat) : Int), (!decide (x.State = 0)) || l.any (fun y => decide (y.Who = x.Who) && decide (y.Thing = x.Thing)))) l.length (fun i hi => by
   have hw := QU (show (i : Int) < 9223372036854775807 by omega)
   have hany : (l.take (i + 1)).any (fun y => decide (y.Who = x.Who) && decide (y.Thing = x.Thing)) = ((l.take i).any (fun y => decide (y.Who = x.Who) && decide (y.Thing = x.Thing)) || (decide (l[i].Who = x.Who) && decide (l[i].Thing = x.Thing))) := by
    rw [List.take_succ_eq_append_getElem hi, List.any_append]; simp
   have ha : Z7 l x.Id (i + 1) = bif decide (l[i].Id < x.Id) then i + 1 else Z7 l x.Id i := by
    rw [Z7, Qu hi]
   simp only [V2, QF hi, Qh hi, Qu hi, hw, cond_true, Qa, hany, ha]
   generalize (l.take i).any (fun y => decide (y.Who = x.Who) && decide (y.Thing = x.Thing)) = q
   cases decide (x.State = 0) <;> cases q <;> cases (decide (l[i].Who = x.Who) && decide (l[i].Thing = x.Thing)) <;> cases decide (l[i].Id < x.Id) <;> rfl)
  (by simp only [V2, QH (Nat.le_refl _), cond_false, List.take_length])
 have hs' : run (V2 l x) (0, (!decide (x.State = 0)), 0) = some (((Z7 l x.Id l.length : Nat) : Int), (!decide (x.State = 0)) || l.any (fun y => decide (y.Who = x.Who) && decide (y.Thing = x.Thing))) := by
  have : ((!decide (x.State = 0)) || (l.take 0).any (fun y => decide (y.Who = x.Who) && decide (y.Thing = x.Thing))) = !decide (x.State = 0) := by simp
  rw [this] at hs; exact hs
 have hk1 := Qkh l x.Id l.length
 have hhi := Qkc l x.Id l.length
 have hlo := Qj4 l x.Id l.length
 generalize Z7 l x.Id l.length = k1 at hs' hk1 hhi hlo
 obtain ⟨k2, hk2, hr, hf1, hf2⟩ := Qry (n := l.length) (fun i => decide ((gt l (i : Int)).Id < x.Id)) (step := ZS l x l)
  (fun i hi => by
   simp only [ZS, QF hi, Qh hi, QU (show (i : Int) < 9223372036854775807 by omega), cond_true, Qa, Option.bind_some]
   cases decide ((gt l (i : Int)).Id < x.Id) <;> rfl)
  (by simp only [ZS, QH (Nat.le_refl _), cond_false]; rfl)
 have A1 : ∀ j (hj : j < l.length), k1 ≤ j → ¬ l[j].Id < x.Id := fun j hj h => by have := hhi j h hj; rw [Qu hj] at this; exact this
 have A2 : ∀ (h : 0 < k1), (l[k1 - 1]'(by omega)).Id < x.Id := fun h => by have := hlo h; rw [Qu (show k1 - 1 < l.length by omega)] at this; exact this
 have B1 : ∀ j (hj : j < l.length), j < k2 → l[j].Id < x.Id := fun j hj h => by have := hf1 j h; simp only [Qu hj, decide_eq_true_eq] at this; exact this
 have B2 : ∀ (h : k2 < l.length), ¬ l[k2].Id < x.Id := fun h => by have := hf2 h; simp only [Qu h, decide_eq_false_iff_not] at this; exact this
 have hl1 := QhN l k1 hk1 x
 have hl2 := QhN l k2 hk2 x
 obtain ⟨b, b1, b2, _⟩ := QeP (V3 l (k1 : Int) [x]) (by omega)
 obtain ⟨c, c1, c2, _⟩ := QeP (V3 l (k2 : Int) [x]) (by omega)
 have hone : b = true ∨ c = true → k1 = k2 := fun h => QvE (fun y : Claim => y.Id) l k1 k2 hk1 hk2 x A1 A2 B1 B2 (by
  rcases h with rfl | rfl
  ·exact .inl (Qd9 _ (by omega) b1)
  ·exact .inr (Qd9 _ (by omega) c1))
 have hbc : b = c := by
  cases hb : b with
  | true =>
   have := hone (.inl hb)
   subst this
   rw [b1, hb] at c1; exact Option.some.inj c1
  | false => cases hc : c with
   | false => rfl
   | true =>
    have := hone (.inr hc)
    subst this
    rw [c1, hc] at b1; rw [hb] at b1; cases b1
 have hi := JW l (fun y => decide (y.Who = x.Who) && decide (y.Thing = x.Thing)) (fun i => (i : Int)) (step := QL l x (ln l))
  (fun i hi => by
   simp only [QL, Qc5, QF hi, Qh hi, Qu hi, QU (show (i : Int) < 9223372036854775807 by omega), cond_true, Qa, Option.bind_some]
   cases (decide (l[i].Who = x.Who) && decide (l[i].Thing = x.Thing)) <;> rfl)
  (by simp only [QL, QH (Nat.le_refl _), cond_false])
 have hc : Q8 l x = some (l.any (fun y => decide (y.Who = x.Who) && decide (y.Thing = x.Thing))) := by
  unfold Q8 V9
  rw [hi]
  cases hf : l.findIdx? (fun y => decide (y.Who = x.Who) && decide (y.Thing = x.Thing)) with
  | none =>
   have : l.any (fun y => decide (y.Who = x.Who) && decide (y.Thing = x.Thing)) = false := by
    rw [List.any_eq_false]
    intro y hy
    have := List.findIdx?_eq_none_iff.1 hf y hy
    simpa using this
   rw [this]; rfl
  | some i =>
   obtain ⟨hi', hp⟩ := QbX hf
   rw [List.any_eq_true.2 ⟨_, List.getElem_mem hi', hp⟩]
   simp only [Option.bind_some, evO, decide_eq_true (show (0 : Int) ≤ (i : Int) by omega)]
 have hrm : rm (0 + l.length) 40 = true := Xk (by omega) (by omega)
 have hrm1 : rm (0 + (cut l 0 (k1 : Int)).length) 40 = true := Xk (by rw [Qa8, List.length_take]; omega) (by omega)
 have hrm2 : rm ((cut l 0 (k1 : Int)).length + 1) 40 = true := Xk (by rw [Qa8, List.length_take]; omega) (by omega)
 have hrm3 : rm ((cut l 0 (k1 : Int)).length + 1 + (cut l (k1 : Int) (ln l)).length) 40 = true := Xk (by rw [Qa8, Qmg, List.length_take, List.length_drop]; omega) (by omega)
 have hspec : XK l x = some (bif ((!decide (x.State = 0)) || l.any (fun y => decide (y.Who = x.Who) && decide (y.Thing = x.Thing))) || !b then (l, false) else (V3 l (k1 : Int) [x], true)) := by
  unfold XK
  simp only [hs', Option.bind_some]
  rw [show slB 0 (k1 : Int) (ln l) = true from QkT hk1, show slB (k1 : Int) (ln l) (ln l) = true from QvC hk1]
  simp only [Qa, hrm, hrm1, hrm2, hrm3, Qwj, b1, Option.bind_some]
  cases ((!decide (x.State = 0)) || l.any (fun y => decide (y.Who = x.Who) && decide (y.Thing = x.Thing))) <;> cases b <;> rfl
 have hdup : ∀ j : Nat, ∀ hj : j < l.length, l[j].Id = x.Id → b = true → False := fun j hj he hb => by
  subst hb
  exact Qwh (fun y : Claim => y.Id) l k1 hk1 x (Qd9 _ (by omega) b1) j hj he
 refine ⟨_, hspec, ?_, ?_, ?_⟩
 ·unfold QeG V7
  simp only [hrm, Qa, Option.bind_some, QiT l x.Id hl, hc, hr, QvI l k2 hk2 x 40 hl (by omega), c2]
  rw [← hbc]
  cases hb : b with
  | false =>
   cases decide (x.State = 0) <;> cases decide (0 ≤ ZL l x.Id) <;> cases l.any (fun y => decide (y.Who = x.Who) && decide (y.Thing = x.Thing)) <;> rfl
  | true =>
   have hk := hone (.inl hb)
   rcases QeX l x.Id with h | ⟨j, hj, h, hid⟩
   ·rw [h, ← hk]
    cases decide (x.State = 0) <;> cases l.any (fun y => decide (y.Who = x.Who) && decide (y.Thing = x.Thing)) <;> rfl
   ·exact absurd hb (fun hb => hdup j hj hid hb)
 ·cases hb : b with
  | true =>
   subst hb
   have := (QhU _ b1 (by omega)).1
   cases (((!decide (x.State = 0)) || l.any (fun y => decide (y.Who = x.Who) && decide (y.Thing = x.Thing))) || !true) with
   | true => exact hl
   | false => show (V3 l (k1 : Int) [x]).length ≤ _; omega
  | false => rw [Bool.not_false, Bool.or_true]; exact hl
 ·intro h
  have hb : b = true := by
   cases hb : b with
   | true => rfl
   | false => rw [hb, Bool.not_false, Bool.or_true] at h; cases h
  have hq : (((!decide (x.State = 0)) || l.any (fun y => decide (y.Who = x.Who) && decide (y.Thing = x.Thing))) || !b) = false := by
   cases hq : (((!decide (x.State = 0)) || l.any (fun y => decide (y.Who = x.Who) && decide (y.Thing = x.Thing))) || !b) with
   | false => rfl
   | true => rw [hq] at h; cases h
  rw [hq]
  refine ⟨k1, hk1, rfl, ?_, ?_, A1⟩
  ·subst hb
   have hup := Qd9 _ (by omega) b1
   have hlt : k1 < (V3 l (k1 : Int) [x]).length := by omega
   have hx : (V3 l (k1 : Int) [x])[k1] = x := by
    have := QnQ l k1 hk1 x
    rw [List.getElem?_eq_getElem hlt] at this
    exact Option.some.inj this
   obtain ⟨j, hj, h1, h2⟩ := Qnz (V3 l (k1 : Int) [x]) x.Id k1 hlt (by rw [hx])
   show ZL (V3 l (k1 : Int) [x]) x.Id = _
   rw [h1]
   have hu := QpX (n := (V3 l (k1 : Int) [x]).length) (fun i => (gt (V3 l (k1 : Int) [x]) (i : Int)).Id) (fun i h1 h2 => by
    show (gt (V3 l (k1 : Int) [x]) ((i - 1 : Nat) : Int)).Id < (gt (V3 l (k1 : Int) [x]) (i : Int)).Id
    rw [Qu h1, Qu (show i - 1 < (V3 l (k1 : Int) [x]).length by omega)]; exact hup i h1 h2)
   by_cases h3 : j < k1
   ·have := hu k1 j h3 hlt
    simp only [Qu hj, Qu hlt, h2, hx] at this; omega
   ·by_cases h4 : k1 < j
    ·have := hu j k1 h4 hj
     simp only [Qu hj, Qu hlt, h2, hx] at this; omega
    ·congr 1; omega
  ·intro j hj hjk
   have hk := hone (.inl hb)
   exact B1 j hj (by omega)
end Go.Proofs.YtncpklppoancgaaGreat
namespace Go.Proofs.YtncpklppoancgaaGreat
open Go
set_option linter.unusedVariables false
set_option linter.unusedSimpArgs false
theorem QtM (l : List Entry) (x : Entry) (hl : l.length ≤ 1048576) : ∃ r, JA l x = some r ∧ QeF l x = some r ∧ r.1.length ≤ 1048576 := by
 have hrm : rm (0 + l.length) 32 = true := Xk (by omega) (by omega)
 have hrm1 : rm (l.length + 1) 32 = true := Xk (by omega) (by omega)
 obtain ⟨b, b1, b2, b3⟩ := Qhd (l ++ [x]) (by simp; omega)
 unfold JA QeF Qam
 simp only [hrm, hrm1, Qa, Option.bind_some, b1, b2]
 cases b with
 | false => exact ⟨(l, false), rfl, rfl, hl⟩
 | true => exact ⟨_, rfl, rfl, by have := (b3 rfl).1; show (l ++ _).length ≤ _; omega⟩
end Go.Proofs.YtncpklppoancgaaGreat
namespace Go.Proofs.YtncpklppoancgaaGreat
open Go
set_option linter.unusedVariables false
set_option linter.unusedSimpArgs false
theorem Qut (l : List Slot) (hl : l.length ≤ 1048576) (h : ∀ x ∈ l, x.Thing = 0) : ZH l = some (ln l) := by
 have h1 := QbI (step := VP l) (fun i => ((i : Int), (i : Int))) (r := (l.length : Int)) l.length (fun i hi => by
   have h0 : decide (l[i].Thing = 0) = true := decide_eq_true (h _ (List.getElem_mem hi))
   simp only [VP, QF hi, Qh hi, Qu hi, h0, cond_true, Qa, QU (show (i : Int) < 9223372036854775807 by omega)])
  (by simp only [VP, QH (Nat.le_refl _), cond_false])
 unfold ZH
 rw [show run (VP l) (0, 0) = _ from h1]; rfl
theorem QgU (h : House) (m3 : h.Slots.length ≤ 1048576) (hf : h.Finds = []) (hk : Vl h = some true) : ∀ x ∈ h.Slots, x.Thing = 0 := by
 unfold Vl at hk
 cases hd : (!decide (ln h.Secrets = ln h.Finds)) with
 | true => rw [hd] at hk; cases hk
 | false =>
 rw [hd, cond_false] at hk
 cases hr : XD h.Chain h.No with
 | none => rw [hr] at hk; cases hk
 | some r =>
 rw [hr] at hk
 simp only [Option.bind_some] at hk
 cases h5 : run (Vt h r h.Finds (ln h.Finds)) 0 with
 | none => rw [h5] at hk; cases hk
 | some o =>
 rw [h5] at hk
 cases o with
 | ret b =>
  exfalso
  rw [hf] at h5
  rw [Qi] at h5
  have : decide ((0 : Int) < ln ([] : List Find)) = false := by decide
  simp only [Vt, this, cond_false, Option.bind_some] at h5
  cases h5
 | brk u =>
 simp only [Option.bind_some, evO] at hk
 have m1 : h.Finds.length ≤ 1048576 := by rw [hf]; simp
 have t3 := QcO h.Slots (fun x => decide (x.Thing = 0) || !decide (X8 h.Finds x.Thing < 0)) (r := false) (step := QX h r h.Slots (ln h.Slots))
  (fun i hi => by
   simp only [QX, QF hi, Qh hi, Qu hi, QU (show (i : Int) < 9223372036854775807 by omega), cond_true, Qa, (ZK h.Finds _ m1).2, Option.bind_some]
   cases decide (h.Slots[i].Thing = 0) <;> cases decide (X8 h.Finds h.Slots[i].Thing < 0) <;> rfl)
  (by simp only [QX, QH (Nat.le_refl _), cond_false])
 rw [t3] at hk
 cases ha : h.Slots.all (fun x => decide (x.Thing = 0) || !decide (X8 h.Finds x.Thing < 0)) with
 | false => rw [ha] at hk; cases hk
 | true =>
  intro x hx
  have := List.all_eq_true.1 ha x hx
  rw [hf] at this
  simpa [X8] using this
theorem QsF (no : Int) (l : List Slot) (hl : l.length ≤ 1048576) : ∃ r, JD no l = some r ∧ Jw no l = some r ∧ V0 r.1 := by
 have hm : V0 ⟨no, [], [], l, [], [], [], [], 0⟩ := ⟨by simp, ⟨by simp, by simp⟩, hl, by simp, by simp, by simp, by simp⟩
 have h0 : V0 ⟨0, [], [], [], [], [], [], [], 0⟩ := ⟨by simp, ⟨by simp, by simp⟩, by simp, by simp, by simp, by simp, by simp⟩
 obtain ⟨b, b1, b2⟩ := QkR _ hm
 unfold JD Jw VT
 simp only [Qk9 _ hm, Xk (show 0 + l.length ≤ 2000000 by omega) (show 24 ≤ 1024 by omega), Qa, Option.bind_some, b1, b2]
 cases b with
 | false => exact ⟨_, rfl, rfl, h0⟩
 | true =>
  have hk := (Qlc _ hm b2).kept
  have hfree := Qut l hl (QgU _ hl rfl hk)
  simp only [hfree, Bool.not_true, cond_false, Option.bind_some, decide_true]
  exact ⟨_, rfl, rfl, hm⟩
end Go.Proofs.YtncpklppoancgaaGreat
namespace Go.Proofs.YtncpklppoancgaaGreat
open Go
set_option linter.unusedVariables false
set_option linter.unusedSimpArgs false
theorem QdZ (n : Int) : i64 (w64 n) := by unfold i64 w64; omega
theorem Qjk (a : Int) (m : Nat) (hm : m < 9223372036854775808) : ∃ x, Qcd .and .i64 a (m : Int) = x ∧ 0 ≤ x ∧ x ≤ (m : Int) := by
 refine ⟨_, rfl, ?_⟩
 have e : ((m : Int) % 2 ^ IntKind.i64.bits).toNat = m := by
  rw [show ((2 : Int) ^ IntKind.i64.bits) = 18446744073709551616 from rfl]; omega
 have h := @Nat.and_le_right (a % 2 ^ IntKind.i64.bits).toNat m
 unfold Qcd
 simp only [e, QtE]
 rw [VK (by omega) (by omega)]
 omega
def okC (c : l1Cur) : Prop := c.b.length ≤ 1048576 ∧ 0 ≤ c.i ∧ c.i ≤ c.b.length
theorem QfH (l : List Int) (hl : l.length ≤ 1048576) : ∃ c, ZE l = some c ∧ okC c := by
 have key : ∀ (m k : Nat) (a : Int), k + m = l.length → ∃ r, run (XM l) (a, (k : Int)) = some r := by
  intro m
  induction m with
  | zero =>
   intro k a hk
   have : k = l.length := by omega
   subst this
   exact ⟨a, by rw [Qi]; simp only [XM, QH (Nat.le_refl _), Bool.false_and, cond_false, Option.bind_some]⟩
  | succ m ih =>
   intro k a hk
   have hlt : k < l.length := by omega
   cases h4 : decide ((k : Int) < 4000) with
   | false => exact ⟨a, by rw [Qi]; simp only [XM, h4, Bool.and_false, cond_false, Option.bind_some]⟩
   | true =>
    obtain ⟨r, hr⟩ := ih (k + 1) (Qcd .and .i64 (w64 (w64 (w64 (a * 137) + w64 (gt l (k : Int))) + 11)) 1073741823) (by omega)
    exact ⟨r, by rw [Qi]; simp only [XM, QF hlt, h4, Bool.and_self, Qh hlt, cond_true, Qa, QU (show (k : Int) < 9223372036854775807 by omega), Option.bind_some]; exact hr⟩
 obtain ⟨r, hr⟩ := key l.length 0 (w64 (193017 + ln l)) (by omega)
 refine ⟨⟨l, 0, r⟩, ?_, hl, Int.le_refl _, by simp only; omega⟩
 unfold ZE
 rw [show run (XM l) (w64 (193017 + ln l), 0) = some r from hr]; rfl
theorem Qla (a : Int) : 0 ≤ Qcd .and .i64 a 255 ∧ Qcd .and .i64 a 255 ≤ 255 := by
 obtain ⟨x, e, h0, h1⟩ := Qjk a 255 (by omega)
 rw [show ((255 : Nat) : Int) = 255 from rfl] at e h1
 rw [e]; exact ⟨h0, h1⟩
theorem Qed (c : l1Cur) (h : okC c) : ∃ c' x, J1 c = some (c', x) ∧ okC c' ∧ 0 ≤ x ∧ x ≤ 255 := by
 obtain ⟨h1, h2, h3⟩ := h
 unfold J1
 by_cases hi : c.i < ln c.b
 ·have hb : inb c.b c.i = true := by rw [XC]; rw [Qr] at hi; omega
  rw [Qr] at hi
  rw [decide_eq_true (show c.i < ln c.b from hi), hb]
  have e : w64 (c.i + 1) = c.i + 1 := VK (by omega) (by omega)
  refine ⟨_, _, rfl, ⟨h1, ?_, ?_⟩, (Qla _).1, (Qla _).2⟩
  ·show 0 ≤ w64 (c.i + 1)
   omega
  ·show w64 (c.i + 1) ≤ (c.b.length : Int)
   omega
 ·rw [decide_eq_false hi]
  exact ⟨_, _, rfl, ⟨h1, h2, h3⟩, (Qla _).1, (Qla _).2⟩
theorem Qqo {x n : Int} (hx : 0 ≤ x) (hn : 0 < n) : 0 ≤ x.tmod n ∧ x.tmod n < n := ⟨Int.tmod_nonneg _ hx, Int.tmod_lt_of_pos x hn⟩
theorem Qd (c : l1Cur) (n : Int) (h : okC c) : ∃ c' x, Qb c n = some (c', x) ∧ okC c' ∧ 0 ≤ x ∧ (0 < n → x < n) := by
 unfold Qb
 by_cases h0 : n ≤ 0
 ·rw [decide_eq_true h0]; exact ⟨c, 0, rfl, h, Int.le_refl _, fun hn => by omega⟩
 ·have hz : (!decide (n = 0)) = true := by simp; omega
  rw [decide_eq_false h0, hz]
  by_cases h1 : n ≤ 256
  ·rw [decide_eq_true h1]
   obtain ⟨c1, x1, e1, k1, l1, u1⟩ := Qed c h
   have := Qqo l1 (show 0 < n by omega)
   exact ⟨c1, x1.tmod n, by simp only [e1, cond_false, cond_true, Option.bind_some, Qa], k1, this.1, fun _ => this.2⟩
  ·rw [decide_eq_false h1]
   obtain ⟨c1, x1, e1, k1, l1, u1⟩ := Qed c h
   obtain ⟨c2, x2, e2, k2, l2, u2⟩ := Qed c1 k1
   obtain ⟨c3, x3, e3, k3, l3, u3⟩ := Qed c2 k2
   have e4 : w64 (w64 (w64 (x1 * 65536) + w64 (x2 * 256)) + x3) = x1 * 65536 + x2 * 256 + x3 := by
    rw [VK (n := x1 * 65536) (by omega) (by omega), VK (n := x2 * 256) (by omega) (by omega), VK (n := x1 * 65536 + x2 * 256) (by omega) (by omega), VK (by omega) (by omega)]
   have := Qqo (show 0 ≤ x1 * 65536 + x2 * 256 + x3 by omega) (show 0 < n by omega)
   exact ⟨c3, (x1 * 65536 + x2 * 256 + x3).tmod n, by simp only [e1, e2, e3, e4, cond_false, Option.bind_some, Qa], k3, this.1, fun _ => this.2⟩
theorem Vd (c : l1Cur) (l : List Int) (h : okC c) (hl : 0 < l.length) : ∃ c' x, Qj c l = some (c', x) ∧ okC c' ∧ x ∈ l := by
 obtain ⟨c1, x1, e1, k1, l1, u1⟩ := Qd c (ln l) h
 have hlt := u1 (by rw [Qr]; omega)
 rw [Qr] at hlt
 obtain ⟨k, rfl⟩ : ∃ k : Nat, x1 = (k : Int) := ⟨x1.toNat, by omega⟩
 have hi : k < l.length := by omega
 refine ⟨c1, l[k], ?_, k1, List.getElem_mem hi⟩
 unfold Qj
 rw [e1]
 simp only [Option.bind_some, Qh hi, Qu hi, Qa]
end Go.Proofs.YtncpklppoancgaaGreat
namespace Go.Proofs.YtncpklppoancgaaGreat
open Go
set_option linter.unusedVariables false
set_option linter.unusedSimpArgs false
theorem Qcf (c : l1Cur) (h : okC c) : ∃ c' x, JC c = some (c', x) ∧ okC c' ∧ i64 x := by
 obtain ⟨c1, x1, e1, k1, m1⟩ := Vd c [(-1), 0, 8, 50, 51, 1000, 9223372036854775807, (-9223372036854775808)] h (by simp)
 refine ⟨c1, x1, by unfold JC; rw [e1]; rfl, k1, ?_⟩
 simp only [List.mem_cons, List.not_mem_nil, or_false] at m1
 unfold i64; omega
end Go.Proofs.YtncpklppoancgaaGreat
namespace Go.Proofs.YtncpklppoancgaaGreat
open Go
set_option linter.unusedVariables false
set_option linter.unusedSimpArgs false
theorem QrU {n b : Nat} (hn : n ≤ 2000000) (hb : b ≤ 1024) : rm n b = true := by
 unfold rm
 refine decide_eq_true ?_
 have := Nat.mul_le_mul hn hb
 omega
def hk (x : Hand) : Prop := i64 x.Who ∧ i64 x.At
theorem Qqv (c : l1Cur) (a : Int) (h : okC c) (ha : i64 a) : ∃ c' x, Qba c a = some (c', x) ∧ okC c' ∧ hk x := by
 obtain ⟨c1, x1, e1, k1, _⟩ := Qd c 4 h
 obtain ⟨c2, x2, e2, k2, _⟩ := Vd c1 [1, 1, 2, 2, 2, 3, 4, 5] k1 (by simp)
 obtain ⟨c3, x3, e3, k3, _⟩ := Qd c2 3 k2
 exact ⟨c3, _, by unfold Qba; simp only [e1, e2, e3, Option.bind_some]; rfl, k3, QdZ _, ha⟩
theorem QnN (l : List Hand) (x : Hand) (hl : l.length ≤ 100000) (hx : hk x) (h : ∀ y ∈ l, hk y) :
  ∃ l' b, QaJ l x = some (l', b) ∧ l'.length ≤ l.length + 1 ∧ ∀ y ∈ l', hk y := by
 have r1 : rm (0 + l.length) 40 = true := QrU (by omega) (by omega)
 have r2 : rm (l.length + 1) 40 = true := QrU (by omega) (by omega)
 have tail : ∀ r : Int, ∃ l' b, (nd (rm (0 + l.length) 40) <| nd (rm (l.length + 1) 40) <| (Q7 (l ++ [(⟨x.Thing, x.Holder, x.Who, x.At, r⟩ : Hand)])).bind fun r2 => (bif (!r2) then nd (rm (0 + l.length) 40) <| some (l, false) else some (l ++ [(⟨x.Thing, x.Holder, x.Who, x.At, r⟩ : Hand)], true))) = some (l', b) ∧ l'.length ≤ l.length + 1 ∧ ∀ y ∈ l', hk y := by
  intro r
  obtain ⟨b, b1, _⟩ := Qks (l ++ [(⟨x.Thing, x.Holder, x.Who, x.At, r⟩ : Hand)])
  rw [r1, r2, b1]
  cases b with
  | false => exact ⟨l, false, rfl, by omega, h⟩
  | true =>
   refine ⟨_, true, rfl, by simp, fun y hy => ?_⟩
   rcases List.mem_append.1 hy with hy | hy
   ·exact h y hy
   ·rw [List.mem_singleton.1 hy]; exact hx
 unfold QaJ
 by_cases h0 : 0 < l.length
 ·rw [decide_eq_true (show 0 < ln l by rw [Qr]; omega), show w64 (ln l - 1) = ((l.length - 1 : Nat) : Int) from by rw [Qr, VK] <;> omega, Qh (show l.length - 1 < l.length by omega), Qu (show l.length - 1 < l.length by omega)]
  obtain ⟨s, s1, _⟩ := Qf9 (l[l.length - 1]).Seal x
  simp only [s1, cond_true, Qa, Option.bind_some]
  exact tail s
 ·rw [decide_eq_false (show ¬ 0 < ln l by rw [Qr]; omega)]
  obtain ⟨s, s1, _⟩ := Qf9 0 x
  simp only [s1, cond_false, Option.bind_some]
  exact tail s
theorem Qoq (c : l1Cur) (h : okC c) : ∃ c' l, QaI c = some (c', l) ∧ okC c' ∧ l.length ≤ 12 ∧ ∀ y ∈ l, hk y := by
 have key : ∀ (m : Nat) (c : l1Cur) (l : List Hand) (a : Int), okC c → l.length + m ≤ 12 → i64 a → (∀ y ∈ l, hk y) → ∃ c' l', run Jb (c, l, a, (m : Int)) = some (c', l') ∧ okC c' ∧ l'.length ≤ 12 ∧ ∀ y ∈ l', hk y := by
  intro m
  induction m with
  | zero =>
   intro c l a hc hl ha hy
   exact ⟨c, l, by rw [Qi]; simp only [Jb, show decide ((0 : Int) < ((0 : Nat) : Int)) = false from rfl, cond_false, Option.bind_some], hc, by omega, hy⟩
  | succ m ih =>
   intro c l a hc hl ha hy
   obtain ⟨c1, x, e1, k1, kx⟩ := Qqv c a hc ha
   obtain ⟨l', b, e2, n2, hy2⟩ := QnN l x (by omega) kx hy
   obtain ⟨c3, x3, e3, k3, _⟩ := Qd c1 9 k1
   obtain ⟨c', l2, r1, r2, r3, r4⟩ := ih c3 l' (w64 (a + x3)) k3 (by omega) (QdZ _) hy2
   refine ⟨c', l2, ?_, r2, r3, r4⟩
   rw [Qi]
   simp only [Jb, decide_eq_true (show (0 : Int) < ((m + 1 : Nat) : Int) by omega), e1, e2, e3, cond_true, Option.bind_some, show w64 (((m + 1 : Nat) : Int) - 1) = (m : Int) from by rw [VK] <;> omega]
   exact r1
 obtain ⟨c1, x1, e1, k1, l1, u1⟩ := Qd c 12 h
 have hx : x1 = ((x1.toNat : Nat) : Int) := by omega
 obtain ⟨c', l', r1, r2, r3, r4⟩ := key x1.toNat c1 [] 0 k1 (by have := u1 (by omega); simp; omega) (by unfold i64; omega) (by simp)
 refine ⟨c', l', ?_, r2, r3, r4⟩
 unfold QaI
 rw [e1]
 simp only [Option.bind_some]
 rw [hx, r1]; rfl
theorem QiF {l : List Hand} {n : Nat} {x : Hand} (h : ∀ y ∈ l, hk y) (hx : hk x) : ∀ y ∈ l.set n x, hk y := fun y hy => by
 rcases List.mem_or_eq_of_mem_set hy with hy | hy
 ·exact h y hy
 ·rw [hy]; exact hx
theorem Qru (c : l1Cur) (h : okC c) : ∃ c' l, Qbn c = some (c', l) ∧ okC c' ∧ l.length ≤ 12 ∧ ∀ y ∈ l, hk y := by
 obtain ⟨c1, l, e1, k1, n1, hy⟩ := Qoq c h
 unfold Qbn
 rw [e1]
 simp only [Option.bind_some]
 by_cases h0 : l.length = 0
 ·rw [decide_eq_true (show ln l = 0 by rw [Qr]; omega)]; exact ⟨c1, l, rfl, k1, n1, hy⟩
 ·rw [decide_eq_false (show ¬ ln l = 0 by rw [Qr]; omega)]
  obtain ⟨c2, x2, e2, k2, l2, u2⟩ := Qd c1 (ln l) k1
  obtain ⟨c3, x3, e3, k3, _⟩ := Qd c2 12 k2
  have u2 := u2 (by rw [Qr]; omega)
  rw [Qr] at u2
  have hx : x2 = ((x2.toNat : Nat) : Int) := by omega
  have hi : x2.toNat < l.length := by omega
  have hin : inb l x2 = true := by rw [XC]; omega
  have hg : hk (gt l x2) := by rw [hx, Qu hi]; exact hy _ (List.getElem_mem hi)
  obtain ⟨c4, x4, e4, k4, m4⟩ := Vd c3 [0, 5, 6] k3 (by simp)
  obtain ⟨c5, x5, e5, k5, m5⟩ := Qcf c3 k3
  obtain ⟨c6, x6, e6, k6, m6⟩ := Vd c3 [(-1), 100000, 100001] k3 (by simp)
  have i6 : i64 x6 := by
   simp only [List.mem_cons, List.not_mem_nil, or_false] at m6
   unfold i64; omega
  have ls : ∀ (n : Nat) (x : Hand), (l.set n x).length ≤ 12 := fun n x => by rw [List.length_set]; exact n1
  simp only [e2, e3, e4, e5, e6, hin, cond_false, Option.bind_some, Qa]
  cases decide (x3 = 0) with
  | true => exact ⟨_, _, rfl, k3, ls _ _, QiF hy ⟨hg.1, hg.2⟩⟩
  | false =>
  cases decide (x3 = 1) with
  | true => exact ⟨_, _, rfl, k4, ls _ _, QiF hy ⟨hg.1, hg.2⟩⟩
  | false =>
  cases decide (x3 = 2) with
  | true => exact ⟨_, _, rfl, k5, ls _ _, QiF hy ⟨m5, hg.2⟩⟩
  | false =>
  cases decide (x3 = 3) with
  | true => exact ⟨_, _, rfl, k6, ls _ _, QiF hy ⟨hg.1, i6⟩⟩
  | false =>
  cases decide (x3 = 4) with
  | true => exact ⟨_, _, rfl, k3, ls _ _, QiF hy ⟨hg.1, hg.2⟩⟩
  | false => exact ⟨_, _, rfl, k3, n1, hy⟩
end Go.Proofs.YtncpklppoancgaaGreat
