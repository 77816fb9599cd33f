import Derived.Test.YtncpklppoancgaaGreatPz1
namespace Go.Proofs.YtncpklppoancgaaGreat
open Go
set_option linter.unusedVariables false
set_option linter.unusedSimpArgs false
noncomputable def QgN (h : House) : Bool := (QZ h).getD false
theorem QjL (h : House) (hm : V0 h) : Jo h = some (QgN h) ∧ QZ h = some (QgN h) := by
 obtain ⟨c, c1, c2⟩ := QkR h hm
 unfold QgN
 rw [c1, c2]
 exact ⟨rfl, rfl⟩
theorem QrD (h : House) (hm : V0 h) (hb : QgN h = true) : HouseOk h := Qlc h hm (by rw [(QjL h hm).2, hb])
end Go.Proofs.YtncpklppoancgaaGreat
namespace Go.Proofs.YtncpklppoancgaaGreat
open Go
set_option linter.unusedVariables false
set_option linter.unusedSimpArgs false
def QbO (l : List Claim) (i : Nat) : Bool :=
 (decide (1 ≤ (gt l (i : Int)).Id) && decide ((gt l (i : Int)).Id ≤ 999)) && ((decide (1 ≤ (gt l (i : Int)).Who) && decide ((gt l (i : Int)).Who ≤ 999)) && ((decide (1 ≤ (gt l (i : Int)).Thing) && decide ((gt l (i : Int)).Thing ≤ 999)) && ((decide (0 ≤ (gt l (i : Int)).At) && decide ((gt l (i : Int)).At ≤ 100000)) && ((decide (0 ≤ (gt l (i : Int)).State) && decide ((gt l (i : Int)).State ≤ 3)) &&
  ((decide (i = 0) || !decide ((gt l (i : Int)).Id ≤ (gt l ((i - 1 : Nat) : Int)).Id)) && !(l.take i).any (QfT (gt l (i : Int))))))))
theorem QoC (l : List Claim) (hl : l.length ≤ 2097152) (i : Nat) (hi : i < l.length) : QO l (i : Int) = some (bif QbO l i then .inl ((i + 1 : Nat) : Int) else .inr (.ret false)) := by
 have hin := QbZ l i hi (by omega)
 simp only [QO, QbO, QF hi, Qh hi, Qu hi, QU (show (i : Int) < 9223372036854775807 by omega), cond_true, Qa, Qe, Option.bind_some, hin]
 generalize (l.take i).any (QfT l[i]) = q
 by_cases h0 : 0 < i
 ·simp only [show decide (0 < (i : Int)) = true from decide_eq_true (by omega), show decide (i = 0) = false from decide_eq_false (by omega), ZG h0 (by omega), Qh (show i - 1 < l.length by omega), cond_true, Qa]
  cases (decide (1 ≤ l[i].Id) && decide (l[i].Id ≤ 999)) <;> cases (decide (1 ≤ l[i].Who) && decide (l[i].Who ≤ 999)) <;> cases (decide (1 ≤ l[i].Thing) && decide (l[i].Thing ≤ 999)) <;> cases (decide (0 ≤ l[i].At) && decide (l[i].At ≤ 100000)) <;> cases (decide (0 ≤ l[i].State) && decide (l[i].State ≤ 3)) <;> cases decide (l[i].Id ≤ (gt l ((i - 1 : Nat) : Int)).Id) <;> cases q <;> rfl
 ·simp only [show decide (0 < (i : Int)) = false from decide_eq_false (by omega), show decide (i = 0) = true from decide_eq_true (by omega), cond_false]
  cases (decide (1 ≤ l[i].Id) && decide (l[i].Id ≤ 999)) <;> cases (decide (1 ≤ l[i].Who) && decide (l[i].Who ≤ 999)) <;> cases (decide (1 ≤ l[i].Thing) && decide (l[i].Thing ≤ 999)) <;> cases (decide (0 ≤ l[i].At) && decide (l[i].At ≤ 100000)) <;> cases (decide (0 ≤ l[i].State) && decide (l[i].State ≤ 3)) <;> cases q <;> rfl
theorem Qn9 (l : List Claim) (hl : l.length ≤ 2097152) : QP l = some ((List.range l.length).all (QbO l) && decide ((l.length : Int) ≤ 20)) := by
 have key : ∀ (m i : Nat), i + m = l.length → run (QO l) (i : Int) = some (bif (List.range' i m).all (QbO l) then .brk () else .ret false) := by
  intro m
  induction m with
  | zero =>
   intro i hi
   have : i = l.length := by omega
   subst this
   rw [Qi]
   simp only [QO, QH (Nat.le_refl _), cond_false, List.range'_zero, List.all_nil, cond_true, Option.bind_some]
  | succ m ih =>
   intro i hi
   rw [Qi, QoC l hl i (by omega), List.range'_succ, List.all_cons]
   cases QbO l i with
   | false => rfl
   | true => simp only [cond_true, Bool.true_and]; exact ih (i + 1) (by omega)
 unfold QP
 rw [show run (QO l) 0 = _ from key l.length 0 (by omega), ← List.range_eq_range']
 cases (List.range l.length).all (QbO l) <;> rfl
theorem QhU (l : List Claim) (h : QP l = some true) (hl : l.length ≤ 2097152) : l.length ≤ 20 ∧ ∀ i, i < l.length → QbO l i = true := by
 rw [Qn9 l hl] at h
 simp only [Option.some.injEq, Bool.and_eq_true, decide_eq_true_eq, List.all_eq_true, List.mem_range] at h
 exact ⟨by omega, h.1⟩
theorem Qy8 {α : Type} [Inhabited α] (l : List α) (k : Nat) (x : α) (i : Nat) (hi : i < l.length) : gt (l.set k x) (i : Int) = if i = k then x else gt l (i : Int) := by
 rw [Qu (by rw [List.length_set]; exact hi), Qu hi, List.getElem_set]
 by_cases h : i = k
 ·subst h; simp
 ·rw [if_neg h, if_neg (by omega)]
end Go.Proofs.YtncpklppoancgaaGreat
namespace Go.Proofs.YtncpklppoancgaaGreat
open Go
set_option linter.unusedVariables false
set_option linter.unusedSimpArgs false
def ZL (l : List Claim) (id : Int) : Int := match l.findIdx? (fun x => decide (x.Id = id)) with | some i => (i : Int) | none => -1
theorem QiT (l : List Claim) (id : Int) (hl : l.length ≤ 1048576) : ZC l id = some (ZL l id) := by
 have hi := JW l (fun x => decide (x.Id = id)) (fun i => (i : Int)) (step := QJ l id (ln l))
  (fun i hi => by
   simp only [QJ, QcD, Option.bind_some, QF hi, Qh hi, Qu hi, QU (show (i : Int) < 9223372036854775807 by omega), cond_true, Qa]
   cases decide (l[i].Id = id) <;> rfl)
  (by simp only [QJ, QH (Nat.le_refl _), cond_false])
 unfold ZC VZ ZL
 rw [hi]
 cases l.findIdx? (fun x => decide (x.Id = id)) <;> rfl
theorem QeX (l : List Claim) (id : Int) : ZL l id = -1 ∨ ∃ k : Nat, ∃ hk : k < l.length, ZL l id = (k : Int) ∧ l[k].Id = id := by
 unfold ZL
 cases hf : l.findIdx? (fun x => decide (x.Id = id)) with
 | none => exact .inl rfl
 | some i =>
  obtain ⟨hi, hp⟩ := QbX hf
  exact .inr ⟨i, hi, rfl, by simpa using hp⟩
theorem Qnz (l : List Claim) (id : Int) (j : Nat) (hj : j < l.length) (h : l[j].Id = id) : ∃ k : Nat, ∃ hk : k < l.length, ZL l id = (k : Int) ∧ l[k].Id = id := by
 rcases QeX l id with h0 | h0
 ·exfalso
  unfold ZL at h0
  cases hf : l.findIdx? (fun x => decide (x.Id = id)) with
  | none =>
   have := List.findIdx?_eq_none_iff.1 hf _ (List.getElem_mem hj)
   simp [h] at this
  | some i => rw [hf] at h0; simp only at h0; omega
 ·exact h0
end Go.Proofs.YtncpklppoancgaaGreat
namespace Go.Proofs.YtncpklppoancgaaGreat
open Go
set_option linter.unusedVariables false
set_option linter.unusedSimpArgs false
theorem QjZ (l : List Claim) (id : Int) (hl : l.length ≤ 1048576) : ZD l id = some (ZL l id) ∧ ZC l id = some (ZL l id) := by
 have hs := JW l (fun x => decide (x.Id = id)) (fun i => (i : Int)) (step := Xr l id)
  (fun i hi => by
   simp only [Xr, QF hi, Qh hi, Qu hi, QU (show (i : Int) < 9223372036854775807 by omega), cond_true, Qa]
   cases decide (l[i].Id = id) <;> rfl)
  (by simp only [Xr, QH (Nat.le_refl _), cond_false])
 refine ⟨?_, QiT l id hl⟩
 unfold ZD ZL
 rw [hs]
 cases l.findIdx? (fun x => decide (x.Id = id)) <;> rfl
end Go.Proofs.YtncpklppoancgaaGreat
namespace Go.Proofs.YtncpklppoancgaaGreat
open Go
set_option linter.unusedVariables false
set_option linter.unusedSimpArgs false
theorem Qsz (l : List Claim) (id s : Int) (hl : l.length ≤ 1048576) : ∃ r, Jz l id s = some r ∧ QeN l id s = some r ∧ r.1.length = l.length := by
 obtain ⟨c, c1, c2, c3⟩ := QdY l hl
 unfold Jz QeN V7
 have hrm : rm (0 + l.length) 40 = true := Xk (by omega) (by omega)
 simp only [hrm, Qa, (QjZ l id hl).1, (QjZ l id hl).2, c1, c2, Option.bind_some]
 rcases QeX l id with h | ⟨k, hk, h, hid⟩
 ·rw [h]; exact ⟨(l, false), rfl, rfl, rfl⟩
 ·rw [h, decide_eq_false (show ¬ (k : Int) < 0 by omega)]
  cases c with
  | false => exact ⟨(l, false), rfl, rfl, rfl⟩
  | true =>
   obtain ⟨d, d1, d2, d3⟩ := QdY (l.set k ⟨l[k].Id, l[k].Who, l[k].Thing, l[k].At, s⟩) (by rw [List.length_set]; omega)
   simp only [cond_false, Option.bind_some, Bool.not_true, Qh hk, Qu hk, Qa, Int.toNat_natCast, d1, d2]
   have hset := List.length_set (as := l) (i := k) (a := (⟨l[k].Id, l[k].Who, l[k].Thing, l[k].At, s⟩ : Claim))
   cases decide (l[k].State = 0) <;> cases decide (s = 1) <;> cases decide (s = 2) <;> cases decide (l[k].State = 1) <;> cases decide (s = 3) <;> cases d <;> first | exact ⟨(l, false), rfl, rfl, rfl⟩ | exact ⟨(l.set k ⟨l[k].Id, l[k].Who, l[k].Thing, l[k].At, s⟩, true), rfl, rfl, hset⟩
end Go.Proofs.YtncpklppoancgaaGreat
namespace Go.Proofs.YtncpklppoancgaaGreat
open Go
set_option linter.unusedVariables false
set_option linter.unusedSimpArgs false
theorem QpX {n : Nat} (f : Nat → Int) (h : ∀ i, i < n → 0 < i → f (i - 1) < f i) : ∀ j i, i < j → j < n → f i < f j := by
 intro j
 induction j with
 | zero => intro i h1 _; omega
 | succ j ih =>
  intro i h1 h2
  have h3 := h (j + 1) h2 (by omega)
  rw [show j + 1 - 1 = j by omega] at h3
  by_cases hij : i = j
  ·subst hij; exact h3
  ·have := ih i (by omega) (by omega); omega
theorem Qih (l : List Slot) (h : ∀ i (hi : i < l.length) (h0 : 0 < i), (l[i - 1]'(by omega)).Id < l[i].Id) (i j : Nat) (hi : i < l.length) (hj : j < l.length) (he : l[i].Id = l[j].Id) : i = j := by
 have hu := QpX (n := l.length) (fun i => (gt l (i : Int)).Id) (fun i h1 h2 => by
  show (gt l ((i - 1 : Nat) : Int)).Id < (gt l (i : Int)).Id
  rw [Qu h1, Qu (show i - 1 < l.length by omega)]; exact h i h1 h2)
 by_cases h1 : i < j
 ·have := hu j i h1 hj
  simp only [Qu hi, Qu hj] at this; omega
 ·by_cases h2 : j < i
  ·have := hu i j h2 hi
   simp only [Qu hi, Qu hj] at this; omega
  ·omega
theorem QuO (l : List Slot) (t : Int) (hl : l.length ≤ 1048576) : JZ l t = some (bif decide (t = 0) || decide (Qan l t < 0) then 0 else (gt l (Qan l t)).Id) := by
 have hr := JW l (fun x => !decide (t = 0) && decide (x.Thing = t)) (fun i => (gt l (i : Int)).Id) (step := VR l t)
  (fun i hi => by
   simp only [VR, QF hi, Qh hi, Qu hi, QU (show (i : Int) < 9223372036854775807 by omega), cond_true, Qa]
   cases decide (t = 0) <;> cases decide (l[i].Thing = t) <;> rfl)
  (by simp only [VR, QH (Nat.le_refl _), cond_false])
 unfold JZ Qan
 rw [hr]
 cases decide (t = 0) with
 | true =>
  have : l.findIdx? (fun x => !true && decide (x.Thing = t)) = none := by rw [List.findIdx?_eq_none_iff]; intro x _; rfl
  rw [this]; rfl
 | false =>
  have e : (fun x : Slot => !false && decide (x.Thing = t)) = (fun x : Slot => decide (x.Thing = t)) := by funext x; simp
  rw [e]
  cases l.findIdx? (fun x => decide (x.Thing = t)) with
  | none => rfl
  | some i =>
   simp only [Option.bind_some, evO, Bool.false_or, decide_eq_false (show ¬ (i : Int) < 0 by omega), cond_false]
def QdI (l : List Slot) (t : Int) : Bool := !(decide (t = 0) || decide (Qan l t < 0))
theorem QmN (l : List Slot) (t : Int) (hl : l.length ≤ 1048576) : ∃ c, Xb l t = some c ∧ decide (c < 0) = !QdI l t := by
 rw [QfQ l t hl]
 unfold QdI
 cases decide (t = 0) with
 | true => exact ⟨-1, rfl, rfl⟩
 | false => exact ⟨Qan l t, rfl, by simp⟩
end Go.Proofs.YtncpklppoancgaaGreat
namespace Go.Proofs.YtncpklppoancgaaGreat
open Go
set_option linter.unusedVariables false
set_option linter.unusedSimpArgs false
end Go.Proofs.YtncpklppoancgaaGreat
namespace Go.Proofs.YtncpklppoancgaaGreat
open Go
set_option linter.unusedVariables false
set_option linter.unusedSimpArgs false
theorem Qmg {α : Type} (l : List α) (k : Nat) : cut l (k : Int) (ln l) = l.drop k := by
 unfold cut ln
 simp
theorem QvC {k n : Nat} (h : k ≤ n) : slB (k : Int) (n : Int) (n : Int) = true := by unfold slB; simp; omega
theorem Qwj {α : Type} (l : List α) (k : Nat) (x : α) : (cut l 0 (k : Int) ++ [x]) ++ cut l (k : Int) (ln l) = V3 l (k : Int) [x] := by
 rw [Qa8, Qmg]; simp [V3]
theorem QhN {α : Type} (l : List α) (k : Nat) (hk : k ≤ l.length) (x : α) : (V3 l (k : Int) [x]).length = l.length + 1 := by
 simp [V3]; omega
theorem QvI {α : Type} (l : List α) (k : Nat) (hk : k ≤ l.length) (x : α) (b : Nat) (hl : l.length ≤ 1048576) (hb : b ≤ 1024) : QBg l (k : Int) [x] b = true := by
 unfold QBg
 have : (l.length + 1) * b ≤ 1048577 * 1024 := Nat.mul_le_mul (by omega) hb
 simp; omega
theorem QnQ {α : Type} (l : List α) (k : Nat) (hk : k ≤ l.length) (x : α) : (V3 l (k : Int) [x])[k]? = some x := by
 simp [V3, List.getElem?_append, Nat.min_eq_left hk]
theorem QpS {α : Type} (l : List α) (k : Nat) (hk : k ≤ l.length) (x : α) (j : Nat) (hj : j < l.length) : (V3 l (k : Int) [x])[if j < k then j else j + 1]? = some l[j] := by
 by_cases h : j < k
 ·rw [if_pos h]; simp [V3, List.getElem?_append, Nat.min_eq_left hk, h]
 ·rw [if_neg h]
  simp only [V3, Int.toNat_natCast, List.singleton_append]
  rw [List.getElem?_append_right (by simp; omega)]
  simp only [List.length_take, Nat.min_eq_left hk]
  rw [show j + 1 - k = (j - k) + 1 by omega, List.getElem?_cons_succ, List.getElem?_drop, show k + (j - k) = j by omega, List.getElem?_eq_getElem hj]
theorem Qwh {α : Type} [Inhabited α] (key : α → Int) (l : List α) (k : Nat) (hk : k ≤ l.length) (x : α) (up : ∀ i (hi : i < (V3 l (k : Int) [x]).length) (h0 : 0 < i), key ((V3 l (k : Int) [x])[i - 1]'(by omega)) < key (V3 l (k : Int) [x])[i]) (j : Nat) (hj : j < l.length) (he : key l[j] = key x) : False := by
 have hlen := QhN l k hk x
 have hu := QpX (n := (V3 l (k : Int) [x]).length) (fun i => key (gt (V3 l (k : Int) [x]) (i : Int))) (fun i h1 h2 => by
  show key (gt (V3 l (k : Int) [x]) ((i - 1 : Nat) : Int)) < key (gt (V3 l (k : Int) [x]) (i : Int))
  rw [Qu h1, Qu (show i - 1 < (V3 l (k : Int) [x]).length by omega)]; exact up i h1 h2)
 have g1 : gt (V3 l (k : Int) [x]) (k : Int) = x := by
  have hlt : k < (V3 l (k : Int) [x]).length := by omega
  rw [Qu hlt]
  have := QnQ l k hk x
  rw [List.getElem?_eq_getElem hlt] at this
  exact Option.some.inj this
 have hidx : (if j < k then j else j + 1) < (V3 l (k : Int) [x]).length := by split <;> omega
 have g2 : gt (V3 l (k : Int) [x]) ((if j < k then j else j + 1 : Nat) : Int) = l[j] := by
  rw [Qu hidx]
  have := QpS l k hk x j hj
  rw [List.getElem?_eq_getElem hidx] at this
  exact Option.some.inj this
 by_cases h : j < k
 ·have := hu k (if j < k then j else j + 1) (by rw [if_pos h]; exact h) (by omega)
  simp only [g1, g2] at this; omega
 ·have := hu (if j < k then j else j + 1) k (by rw [if_neg h]; omega) hidx
  simp only [g1, g2] at this; omega
end Go.Proofs.YtncpklppoancgaaGreat
