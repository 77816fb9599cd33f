import Derived.Test.YtcdffihcfeajfaaGreatFam
namespace Go.Proofs.YtcdffihcfeajfaaGreat
open Go
set_option linter.unusedVariables false
set_option linter.unusedSimpArgs false
theorem Qpj (v : Int) {m : Int} (hm : 0 < m) : -m < v.tmod m ∧ v.tmod m < m := by
 refine ⟨?_, Int.tmod_lt_of_pos v hm⟩
 have h := Int.tmod_lt_of_pos (-v) hm
 rw [Int.neg_tmod] at h
 omega
theorem QuU (v : Int) : Qfl v 2147483647 = QcD v 2147483647 := by
 obtain ⟨h1, h2⟩ := Qpj v (m := 2147483647) (by omega)
 unfold Qfl QcD Qf Qb
 simp only [Option.bind_some, show (decide ((1 : Int) ≤ 2147483647) && decide ((2147483647 : Int) ≤ 1000000000000)) = true from rfl, Bool.not_true, cond_false, show (!decide ((2147483647 : Int) = 0)) = true from rfl, Qa]
 generalize v.tmod 2147483647 = t at h1 h2
 rw [Vd (by omega) (by omega)]
 by_cases ht : t < 0
 ·rw [decide_eq_true ht, cond_true, Int.tmod_eq_of_lt (by omega) (by omega)]
 ·rw [decide_eq_false ht, cond_false, Int.tmod_eq_emod_of_nonneg (by omega)]
  congr 1; omega
theorem Qvj (v : Int) : ∃ c, QcD v 2147483647 = some c := by
 unfold QcD Qb
 simp only [Option.bind_some, show (decide ((1 : Int) ≤ 2147483647) && decide ((2147483647 : Int) ≤ 1000000000000)) = true from rfl, Bool.not_true, cond_false, show (!decide ((2147483647 : Int) = 0)) = true from rfl, Qa]
 cases decide (v.tmod 2147483647 < 0) <;> exact ⟨_, rfl⟩
theorem QwP (l : List Int) : Qb9 l = QdV l := by
 have h : JJ l = QbJ l (ln l) := by
  funext ⟨d, i⟩
  simp only [JJ, QbJ, Qfy, QuU]
  cases decide (i < ln l) with
  | false => rfl
  | true =>
   cases inb l i with
   | false => rfl
   | true =>
    simp only [cond_true, Qa]
    cases QcD (gt l i) 2147483647 <;> rfl
 unfold Qb9 QdV
 rw [h]
theorem QsE (l : List Int) (hl : l.length ≤ 1048576) : ∃ c, Qb9 l = some c := by
 unfold Qb9
 obtain ⟨r, hr⟩ := Qov (step := JJ l) (fun i s => s.2 = (i : Int)) l.length (fun i s hi hs => by
   obtain ⟨d, i'⟩ := s
   simp only at hs
   subst hs
   obtain ⟨c, hc⟩ := Qvj (gt l (i : Int))
   refine .inr ⟨((w64 (w64 (w64 (d * 1000003) + c) + 13)).tmod 2147483647, w64 ((i : Int) + 1)), by simp only [JJ, Qu hi, Qg hi, QuU, hc, Option.bind_some, cond_true, Qa], ?_⟩
   exact QP (by omega)) (fun s hs => by
   obtain ⟨d, i'⟩ := s
   simp only at hs
   subst hs
   exact ⟨d, by simp only [JJ, Qx (Nat.le_refl _), cond_false]⟩) l.length 0 (11, 0) (by omega) rfl
 exact ⟨r, by rw [hr]; rfl⟩
theorem Qke (s : Int) (x : Hand) : ∃ c, XX s x = some c ∧ Xb s x = some c := by
 obtain ⟨c, hc⟩ := QsE [s, x.Thing, x.Holder, x.Who, x.At] (by simp)
 exact ⟨c, by unfold XX; rw [hc]; rfl, by unfold Xb; rw [← QwP, hc]; rfl⟩
def VA (l : List Hand) (t : Int) : Nat → Int
 | 0 => -1
 | n + 1 => if (gt l (n : Int)).Thing = t then (n : Int) else VA l t n
theorem Qfx (l : List Hand) (t : Int) : ∀ n, VA l t n = -1 ∨ ∃ j : Nat, j < n ∧ VA l t n = (j : Int)
 | 0 => .inl rfl
 | n + 1 => by
  unfold VA
  split
  ·exact .inr ⟨n, by omega, rfl⟩
  ·rcases Qfx l t n with h | ⟨j, h1, h2⟩
   ·exact .inl h
   ·exact .inr ⟨j, by omega, h2⟩
theorem Qnw (l : List Hand) (t : Int) (n : Nat) (hn : n ≤ l.length) (hl : l.length ≤ 1048576) : QaB l t (n : Int) = some (VA l t n) := by
 have hr := Qbv (step := XM l t (n : Int)) (fun i => (VA l t i, (i : Int))) (r := VA l t n) n (fun i hi => by
   simp only [XM, show decide ((i : Int) < (n : Int)) = true from decide_eq_true (by omega), Qg (show i < l.length by omega), QP (show (i : Int) < 9223372036854775807 by omega), cond_true, Qa, VA]
   by_cases ht : (gt l (i : Int)).Thing = t
   ·rw [decide_eq_true ht, if_pos ht]; rfl
   ·rw [decide_eq_false ht, if_neg ht]; rfl) (by
   simp only [XM, show decide ((n : Int) < (n : Int)) = false from decide_eq_false (by omega), cond_false])
 unfold QaB
 rw [show run (XM l t (n : Int)) ((-1), 0) = some (VA l t n) from hr]
 rfl
theorem QAq {α : Type} [Inhabited α] (l : List α) (n : Nat) (i : Nat) (h : i < n) : gt (cut l 0 (n : Int)) (i : Int) = gt l (i : Int) := by
 unfold gt cut
 simp [List.getD_eq_getElem?_getD, List.getElem?_take, h]
theorem Qra {α : Type} (l : List α) (n : Nat) (h : n ≤ l.length) : (cut l 0 (n : Int)).length = n := by
 unfold cut
 simp; omega
theorem QmX (l : List Hand) (t : Int) (n : Nat) (hn : n ≤ l.length) (hl : l.length ≤ 1048576) : JR (cut l 0 (n : Int)) t = some (VA l t n) := by
 have key : ∀ j : Nat, j ≤ n → run (J0 (cut l 0 (n : Int)) t) ((j : Int) - 1) = some (bif decide (VA l t j < 0) then .brk () else .ret (VA l t j)) := by
  intro j
  induction j with
  | zero => intro _; rw [Qs]; rfl
  | succ j ih =>
   intro hj
   have hlt : j < (cut l 0 (n : Int)).length := by rw [Qra l n hn]; omega
   rw [show ((j + 1 : Nat) : Int) - 1 = (j : Int) by omega, Qs]
   simp only [J0, show decide (0 ≤ (j : Int)) = true from decide_eq_true (by omega), Qg hlt, QAq l n j (by omega), cond_true, Qa]
   by_cases ht : (gt l (j : Int)).Thing = t
   ·have e : VA l t (j + 1) = (j : Int) := by unfold VA; rw [if_pos ht]
    rw [decide_eq_true ht, e, decide_eq_false (show ¬ (j : Int) < 0 by omega)]; rfl
   ·have e : VA l t (j + 1) = VA l t j := by rw [VA, if_neg ht]
    rw [decide_eq_false ht, e, show w64 ((j : Int) - 1) = (j : Int) - 1 from Vd (by omega) (by omega)]
    exact ih (by omega)
 unfold JR
 rw [show w64 (ln (cut l 0 (n : Int)) - 1) = (n : Int) - 1 from by rw [Vg, Qra l n hn, Vd] <;> omega, key n (Nat.le_refl _)]
 rcases Qfx l t n with h | ⟨j, _, h⟩
 ·rw [h]; rfl
 ·rw [h, decide_eq_false (show ¬ (j : Int) < 0 by omega)]; rfl
theorem Qhz (l : List Hand) (hl : l.length ≤ 100) (s : Int) (k : Nat) (hk : k ≤ l.length) : QE l (s, (k : Int)) = XH l l (ln l) (s, (k : Int)) := by
 by_cases hlt : k < l.length
 ·obtain ⟨c, hc1, hc2⟩ := Qke s l[k]
  have e100 : decide (ln l ≤ 100) = true := decide_eq_true (by rw [Vg]; omega)
  have hcut : slB 0 (k : Int) (ln l) = true := by unfold slB; simp [Vg]; omega
  simp only [QE, XH, Qu hlt, e100, Qg hlt, Qz hlt, Bool.and_true, cond_true, Qa, hc1, hc2, Option.bind_some, Qf, Qb, hcut, Qnw l _ k hk (by omega), QmX l _ k hk (by omega), QP (show (k : Int) < 9223372036854775807 by omega)]
  have h3 : ∀ h : Int, decide (3 ≤ h) = decide (2 < h) := fun h => by rw [decide_eq_decide]; omega
  have tail : ∀ (r : Int) (q : Int), (r = -1 ∨ ∃ j : Nat, j < k ∧ r = (j : Int)) →
    ((bif (decide (r < 0)) then (bif (decide (2 < l[k].Holder)) then some true else (bif (decide (0 ≤ r)) then (bif (decide (l[k].Holder = 1)) then some true else nd (inb l r) <| some (decide (3 ≤ (gt l r).Holder))) else some false)) else (bif (decide (0 ≤ r)) then (bif (decide (l[k].Holder = 1)) then some true else nd (inb l r) <| some (decide (3 ≤ (gt l r).Holder))) else some false)).bind fun b2 => (bif b2 then some (.inr (.ret false)) else some (.inl (q, ((k + 1 : Nat) : Int))) : Option ((Int × Int) ⊕ (Fl Bool Unit)))) =
    (bif (decide (r < 0)) then (bif (decide (2 < l[k].Holder)) then some (.inr (.ret false)) else some (.inl (q, ((k + 1 : Nat) : Int)))) else (bif (decide (l[k].Holder = 1)) then some true else nd (inb l r) <| some (decide (2 < (gt l r).Holder))).bind fun b2 => (bif b2 then some (.inr (.ret false)) else some (.inl (q, ((k + 1 : Nat) : Int))))) := by
   intro r q hr
   rcases hr with rfl | ⟨j, hj, rfl⟩
   ·simp only [show decide ((-1 : Int) < 0) = true from rfl, show decide (0 ≤ (-1 : Int)) = false from rfl, cond_true, cond_false]
    cases decide (2 < l[k].Holder) <;> rfl
   ·simp only [show decide ((j : Int) < 0) = false from decide_eq_false (by omega), show decide (0 ≤ (j : Int)) = true from decide_eq_true (by omega), cond_true, cond_false, Qg (show j < l.length by omega), Qa, h3]
  have ht := Qfx l l[k].Thing k
  by_cases hq : l[k].Seal = c
  ·subst hq
   simp only [decide_true, Bool.not_true, cond_false]
   by_cases h0 : 0 < k
   ·simp only [show decide (0 < (k : Int)) = true from decide_eq_true (by omega), show w64 ((k : Int) - 1) = ((k - 1 : Nat) : Int) from by rw [Vd] <;> omega, Qg (show k - 1 < l.length by omega), cond_true, Qa, Option.bind_some]
    cases (decide (1 ≤ l[k].Thing) && decide (l[k].Thing ≤ 999)) <;> cases (decide (1 ≤ l[k].Holder) && decide (l[k].Holder ≤ 5)) <;> cases (decide (0 ≤ l[k].Who) && decide (l[k].Who ≤ 999)) <;> cases (decide (0 ≤ l[k].At) && decide (l[k].At ≤ 100000)) <;> cases decide (l[k].At < (gt l ((k - 1 : Nat) : Int)).At) <;>
     simp only [Bool.not_true, Bool.not_false, cond_true, cond_false, Option.bind_some]
    exact tail _ _ ht
   ·simp only [show decide (0 < (k : Int)) = false from decide_eq_false (by omega), cond_false, Option.bind_some]
    cases (decide (1 ≤ l[k].Thing) && decide (l[k].Thing ≤ 999)) <;> cases (decide (1 ≤ l[k].Holder) && decide (l[k].Holder ≤ 5)) <;> cases (decide (0 ≤ l[k].Who) && decide (l[k].Who ≤ 999)) <;> cases (decide (0 ≤ l[k].At) && decide (l[k].At ≤ 100000)) <;>
     simp only [Bool.not_true, Bool.not_false, cond_true, cond_false, Option.bind_some]
    exact tail _ _ ht
  ·simp only [decide_eq_false hq, Bool.not_false, cond_true]
   by_cases h0 : 0 < k
   ·simp only [show decide (0 < (k : Int)) = true from decide_eq_true (by omega), show w64 ((k : Int) - 1) = ((k - 1 : Nat) : Int) from by rw [Vd] <;> omega, Qg (show k - 1 < l.length by omega), cond_true, Qa, Option.bind_some]
    cases (decide (1 ≤ l[k].Thing) && decide (l[k].Thing ≤ 999)) <;> cases (decide (1 ≤ l[k].Holder) && decide (l[k].Holder ≤ 5)) <;> cases (decide (0 ≤ l[k].Who) && decide (l[k].Who ≤ 999)) <;> cases (decide (0 ≤ l[k].At) && decide (l[k].At ≤ 100000)) <;> cases decide (l[k].At < (gt l ((k - 1 : Nat) : Int)).At) <;>
     simp only [Bool.not_true, Bool.not_false, cond_true, cond_false, Option.bind_some]
   ·simp only [show decide (0 < (k : Int)) = false from decide_eq_false (by omega), cond_false, Option.bind_some]
    cases (decide (1 ≤ l[k].Thing) && decide (l[k].Thing ≤ 999)) <;> cases (decide (1 ≤ l[k].Holder) && decide (l[k].Holder ≤ 5)) <;> cases (decide (0 ≤ l[k].Who) && decide (l[k].Who ≤ 999)) <;> cases (decide (0 ≤ l[k].At) && decide (l[k].At ≤ 100000)) <;>
     simp only [Bool.not_true, Bool.not_false, cond_true, cond_false, Option.bind_some]
 ·have : k = l.length := by omega
  subst this
  simp only [QE, XH, Qx (Nat.le_refl _), Bool.false_and, cond_false]
theorem Qch (l : List Hand) (hl : l.length ≤ 100) (s : Int) (k : Nat) (hlt : k < l.length) :
  QE l (s, (k : Int)) = some (.inr (.ret false)) ∨ (∃ c, QE l (s, (k : Int)) = some (.inl (c, ((k + 1 : Nat) : Int)))) ∧ 0 ≤ l[k].At ∧ l[k].At ≤ 100000 ∧ ∀ (h : 0 < k), (l[k - 1]'(by omega)).At ≤ l[k].At := by
 obtain ⟨c, hc1, hc2⟩ := Qke s l[k]
 have e100 : decide (ln l ≤ 100) = true := decide_eq_true (by rw [Vg]; omega)
 have ht := Qfx l l[k].Thing k
 simp only [QE, Qu hlt, e100, Qg hlt, Qz hlt, Bool.and_true, cond_true, Qa, hc1, Option.bind_some, Qf, Qnw l _ k (by omega) (by omega), QP (show (k : Int) < 9223372036854775807 by omega)]
 have tail : ∀ r : Int, (r = -1 ∨ ∃ j : Nat, j < k ∧ r = (j : Int)) → ∃ b, (bif (decide (r < 0)) then (bif (decide (2 < l[k].Holder)) then some true else (bif (decide (0 ≤ r)) then (bif (decide (l[k].Holder = 1)) then some true else nd (inb l r) <| some (decide (3 ≤ (gt l r).Holder))) else some false)) else (bif (decide (0 ≤ r)) then (bif (decide (l[k].Holder = 1)) then some true else nd (inb l r) <| some (decide (3 ≤ (gt l r).Holder))) else some false)) = some b := by
  intro r hr
  rcases hr with rfl | ⟨j, hj, rfl⟩
  ·simp only [show decide ((-1 : Int) < 0) = true from rfl, show decide (0 ≤ (-1 : Int)) = false from rfl, cond_true, cond_false]
   cases decide (2 < l[k].Holder) <;> exact ⟨_, rfl⟩
  ·simp only [show decide ((j : Int) < 0) = false from decide_eq_false (by omega), show decide (0 ≤ (j : Int)) = true from decide_eq_true (by omega), cond_true, cond_false, Qg (show j < l.length by omega), Qa]
   cases decide (l[k].Holder = 1) <;> exact ⟨_, rfl⟩
 obtain ⟨b, hb⟩ := tail _ ht
 simp only [hb, Option.bind_some]
 by_cases h1 : (decide (1 ≤ l[k].Thing) && decide (l[k].Thing ≤ 999)) = false
 ·left; simp only [h1, Bool.not_true, Bool.not_false, cond_true, cond_false, Option.bind_some]
 rw [Bool.not_eq_false] at h1
 by_cases h2 : (decide (1 ≤ l[k].Holder) && decide (l[k].Holder ≤ 5)) = false
 ·left; simp only [h1, h2, Bool.not_true, Bool.not_false, cond_true, cond_false, Option.bind_some]
 rw [Bool.not_eq_false] at h2
 by_cases h3 : (decide (0 ≤ l[k].Who) && decide (l[k].Who ≤ 999)) = false
 ·left; simp only [h1, h2, h3, Bool.not_true, Bool.not_false, cond_true, cond_false, Option.bind_some]
 rw [Bool.not_eq_false] at h3
 by_cases h4 : (decide (0 ≤ l[k].At) && decide (l[k].At ≤ 100000)) = false
 ·left; simp only [h1, h2, h3, h4, Bool.not_true, Bool.not_false, cond_true, cond_false, Option.bind_some]
 rw [Bool.not_eq_false] at h4
 simp only [h1, h2, h3, h4, Bool.not_true, cond_false, Option.bind_some]
 simp only [Bool.and_eq_true, decide_eq_true_eq] at h4
 cases decide (l[k].Seal = c) with
 | false => left; simp only [Bool.not_false, cond_true, Option.bind_some]
 | true =>
  simp only [Bool.not_true, cond_false]
  by_cases h0 : 0 < k
  ·simp only [show decide (0 < (k : Int)) = true from decide_eq_true (by omega), show w64 ((k : Int) - 1) = ((k - 1 : Nat) : Int) from by rw [Vd] <;> omega, Qg (show k - 1 < l.length by omega), Qz (show k - 1 < l.length by omega), cond_true, Qa, Option.bind_some]
   by_cases h5 : l[k].At < (l[k - 1]'(by omega)).At
   ·left; rw [decide_eq_true h5]; rfl
   ·rw [decide_eq_false h5]
    simp only [cond_false]
    cases b with
    | true => left; rfl
    | false => right; exact ⟨⟨_, rfl⟩, h4.1, h4.2, fun _ => by omega⟩
  ·simp only [show decide (0 < (k : Int)) = false from decide_eq_false (by omega), cond_false, Option.bind_some]
   cases b with
   | true => left; rfl
   | false => right; exact ⟨⟨_, rfl⟩, h4.1, h4.2, fun h => absurd h h0⟩
theorem Qou (l : List Hand) (hl : l.length ≤ 100) : run (QE l) (0, 0) = some (.brk ()) ∨ run (QE l) (0, 0) = some (.ret false) := by
 have key : ∀ (m k : Nat) (s : Int), k + m = l.length → run (QE l) (s, (k : Int)) = some (.brk ()) ∨ run (QE l) (s, (k : Int)) = some (.ret false) := by
  intro m
  induction m with
  | zero =>
   intro k s hk
   have : k = l.length := by omega
   subst this
   left
   rw [Qs]
   simp only [QE, Qx (Nat.le_refl _), Bool.false_and, cond_false, Option.bind_some]
  | succ m ih =>
   intro k s hk
   rcases Qch l hl s k (by omega) with h | ⟨⟨c, h⟩, _⟩
   ·right; rw [Qs, h]; rfl
   ·rw [Qs, h]; exact ih (k + 1) c (by omega)
 exact key l.length 0 0 (by omega)
theorem QnT (l : List Hand) : ∃ b, Vr l = some b ∧ Vp l = some b ∧
  (b = true → l.length ≤ 100 ∧ ∀ k (h : k < l.length), 0 ≤ l[k].At ∧ l[k].At ≤ 100000 ∧ ∀ (h' : 0 < k), (l[k - 1]'(by omega)).At ≤ l[k].At) := by
 by_cases hl : l.length ≤ 100
 ·have he : run (QE l) (0, 0) = run (XH l l (ln l)) (0, 0) := by
   refine Qr5 (fun s => ∃ k : Nat, k ≤ l.length ∧ s.2 = (k : Int)) (fun s ⟨k, hk, hs⟩ => ?_) (fun s s' ⟨k, hk, hs⟩ hg => ?_) ⟨0, by omega, rfl⟩
   ·obtain ⟨a, i⟩ := s
    simp only at hs
    subst hs
    exact Qhz l hl a k hk
   ·obtain ⟨a, i⟩ := s
    simp only at hs
    subst hs
    rw [← Qhz l hl a k hk] at hg
    by_cases hlt : k < l.length
    ·rcases Qch l hl a k hlt with h | ⟨⟨c, h⟩, _⟩
     ·rw [h] at hg; simp at hg
     ·rw [h] at hg
      injection hg with hg; injection hg with hg; subst hg
      exact ⟨k + 1, by omega, rfl⟩
    ·have : k = l.length := by omega
     subst this
     simp only [QE, Qx (Nat.le_refl _), Bool.false_and, cond_false] at hg
     simp at hg
  have e100 : decide (ln l ≤ 100) = true := decide_eq_true (by rw [Vg]; omega)
  have e101 : decide (100 < ln l) = false := decide_eq_false (by rw [Vg]; omega)
  unfold Vr Vp
  rw [← he, e101]
  rcases Qou l hl with h | h
  ·refine ⟨true, by rw [h, e100]; rfl, by rw [h]; rfl, fun _ => ⟨hl, fun k hk => ?_⟩⟩
   obtain ⟨⟨s, i⟩, s', hs, hst⟩ := Qi0 (step := QE l) (fun i s => s.2 = (i : Int)) l.length () (fun i s hi hs => by
    obtain ⟨a, i'⟩ := s
    simp only at hs
    subst hs
    rcases Qch l hl a i hi with h | ⟨⟨c, h⟩, _⟩
    ·exact .inl ⟨_, h⟩
    ·exact .inr ⟨_, h, rfl⟩) l.length 0 (0, 0) (by omega) rfl h k (by omega) hk
   simp only at hs
   subst hs
   rcases Qch l hl s k hk with h' | ⟨_, h'⟩
   ·rw [h'] at hst; simp at hst
   ·exact h'
  ·exact ⟨false, by rw [h]; rfl, by rw [h]; rfl, fun h => by cases h⟩
 ·refine ⟨false, ?_, ?_, fun h => by cases h⟩
  ·have e100 : decide (ln l ≤ 100) = false := decide_eq_false (by rw [Vg]; omega)
   unfold Vr
   rw [Qs]
   simp only [QE, e100, Bool.and_false, cond_false, Option.bind_some]
   rfl
  ·unfold Vp
   rw [show decide (100 < ln l) = true from decide_eq_true (by rw [Vg]; omega)]
   rfl
end Go.Proofs.YtcdffihcfeajfaaGreat
