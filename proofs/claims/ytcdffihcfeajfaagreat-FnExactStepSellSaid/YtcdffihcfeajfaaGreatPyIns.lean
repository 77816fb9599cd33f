import Derived.Test.YtcdffihcfeajfaaGreatPySlot
namespace Go.Proofs.YtcdffihcfeajfaaGreat
open Go
set_option linter.unusedVariables false
set_option linter.unusedSimpArgs false
theorem QKF {n : Nat} (p : Nat → Bool) {step : Int → Option (Int ⊕ Int)} (h1 : ∀ i, i < n → step (i : Int) = some (bif p i then .inl ((i + 1 : Nat) : Int) else .inr (i : Int))) (h2 : step (n : Int) = some (.inr (n : Int))) : ∃ k : Nat, k ≤ n ∧ run step 0 = some (k : Int) := by
 have key : ∀ (m i : Nat), i + m = n → ∃ k : Nat, k ≤ n ∧ run step (i : Int) = some (k : Int) := by
  intro m
  induction m with
  | zero =>
   intro i hi
   have : i = n := by omega
   subst this
   exact ⟨i, Nat.le_refl _, by rw [Qs, h2]; rfl⟩
  | succ m ih =>
   intro i hi
   cases hp : p i with
   | false => exact ⟨i, by omega, by rw [Qs, h1 i (by omega), hp]; rfl⟩
   | true =>
    obtain ⟨k, k1, k2⟩ := ih (i + 1) (by omega)
    exact ⟨k, k1, by rw [Qs, h1 i (by omega), hp]; exact k2⟩
 exact key n 0 (by omega)
theorem Qo7 {α : Type} (l : List α) (k : Nat) : cut l (k : Int) (ln l) = l.drop k := by
 unfold cut ln
 simp
theorem Qwe {k n : Nat} (h : k ≤ n) : slB (k : Int) (n : Int) (n : Int) = true := by unfold slB; simp; omega
theorem QvQ {α : Type} (l : List α) (k : Nat) (x : α) : (cut l 0 (k : Int) ++ [x]) ++ cut l (k : Int) (ln l) = QaT l (k : Int) [x] := by
 rw [Qc1, Qo7]; simp [QaT]
theorem QrN {α : Type} (l : List α) (k : Nat) (hk : k ≤ l.length) (x : α) : (QaT l (k : Int) [x]).length = l.length + 1 := by
 simp [QaT]; omega
theorem QKG {α : Type} (l : List α) (k : Nat) (hk : k ≤ l.length) (x : α) (b : Nat) (hl : l.length ≤ 1048576) (hb : b ≤ 1024) : Qr3 l (k : Int) [x] b = true := by
 unfold Qr3
 have : (l.length + 1) * b ≤ 1048577 * 1024 := Nat.mul_le_mul (by omega) hb
 simp; omega
theorem Qyr {α : Type} (l : List α) (k : Nat) (hk : k ≤ l.length) (x : α) : (QaT l (k : Int) [x])[k]? = some x := by
 simp [QaT, List.getElem?_append, Nat.min_eq_left hk]
theorem Qwu {α : Type} (l : List α) (k : Nat) (hk : k ≤ l.length) (x : α) (j : Nat) (hj : j < l.length) : (QaT l (k : Int) [x])[if j < k then j else j + 1]? = some l[j] := by
 by_cases h : j < k
 ·rw [if_pos h]; simp [QaT, List.getElem?_append, Nat.min_eq_left hk, h]
 ·rw [if_neg h]
  simp only [QaT, Int.toNat_natCast, List.singleton_append]
  rw [List.getElem?_append_right (by simp; omega)]
  simp only [List.length_take, Nat.min_eq_left hk]
  rw [show j + 1 - k = (j - k) + 1 by omega, List.getElem?_cons_succ, List.getElem?_drop, show k + (j - k) = j by omega, List.getElem?_eq_getElem hj]
theorem QKJ {α : Type} [Inhabited α] (key : α → Int) (l : List α) (k : Nat) (hk : k ≤ l.length) (x : α) (up : ∀ i (hi : i < (QaT l (k : Int) [x]).length) (h0 : 0 < i), key ((QaT l (k : Int) [x])[i - 1]'(by omega)) < key (QaT l (k : Int) [x])[i]) (j : Nat) (hj : j < l.length) (he : key l[j] = key x) : False := by
 have hlen := QrN l k hk x
 have hu := QxX (n := (QaT l (k : Int) [x]).length) (fun i => key (gt (QaT l (k : Int) [x]) (i : Int))) (fun i h1 h2 => by
  show key (gt (QaT l (k : Int) [x]) ((i - 1 : Nat) : Int)) < key (gt (QaT l (k : Int) [x]) (i : Int))
  rw [Qz h1, Qz (show i - 1 < (QaT l (k : Int) [x]).length by omega)]; exact up i h1 h2)
 have g1 : gt (QaT l (k : Int) [x]) (k : Int) = x := by
  have hlt : k < (QaT l (k : Int) [x]).length := by omega
  rw [Qz hlt]
  have := Qyr l k hk x
  rw [List.getElem?_eq_getElem hlt] at this
  exact Option.some.inj this
 have hidx : (if j < k then j else j + 1) < (QaT l (k : Int) [x]).length := by split <;> omega
 have g2 : gt (QaT l (k : Int) [x]) ((if j < k then j else j + 1 : Nat) : Int) = l[j] := by
  rw [Qz hidx]
  have := Qwu l k hk x j hj
  rw [List.getElem?_eq_getElem hidx] at this
  exact Option.some.inj this
 by_cases h : j < k
 ·have := hu k (if j < k then j else j + 1) (by rw [if_pos h]; exact h) (by omega)
  simp only [g1, g2] at this; omega
 ·have := hu (if j < k then j else j + 1) k (by rw [if_neg h]; omega) hidx
  simp only [g1, g2] at this; omega
end Go.Proofs.YtcdffihcfeajfaaGreat
