import Derived.Test.YtponohekgnklkaaGreatPz2
namespace Go.Proofs.YtponohekgnklkaaGreat
open Go
set_option linter.unusedVariables false
set_option linter.unusedSimpArgs false
theorem QuE {n : Nat} (f : Nat → Int) (h : ∀ i, i < n → 0 < i → f (i - 1) < f i) : ∀ j i, i < j → j < n → f i < f j := by
 intro j
 induction j with
 | zero => intro i h1 _; omega
 | succ j ih =>
  intro i h1 h2
  have h3 := h (j + 1) h2 (by omega)
  rw [show j + 1 - 1 = j by omega] at h3
  by_cases hij : i = j
  ·subst hij; exact h3
  ·have := ih i (by omega) (by omega); omega
theorem QfG (l : List Slot) (h : ∀ i (hi : i < l.length) (h0 : 0 < i), (l[i - 1]'(by omega)).Id < l[i].Id) (i j : Nat) (hi : i < l.length) (hj : j < l.length) (he : l[i].Id = l[j].Id) : i = j := by
 have hu := QuE (n := l.length) (fun i => (gt l (i : Int)).Id) (fun i h1 h2 => by
  show (gt l ((i - 1 : Nat) : Int)).Id < (gt l (i : Int)).Id
  rw [Qw h1, Qw (show i - 1 < l.length by omega)]; exact h i h1 h2)
 by_cases h1 : i < j
 ·have := hu j i h1 hj
  simp only [Qw hi, Qw hj] at this; omega
 ·by_cases h2 : j < i
  ·have := hu i j h2 hi
   simp only [Qw hi, Qw hj] at this; omega
  ·omega
theorem QlG (l : List Slot) (t : Int) (hl : l.length ≤ 1048576) : Jr l t = some (bif decide (t = 0) || decide (QaR l t < 0) then 0 else (gt l (QaR l t)).Id) := by
 have hr := XQ l (fun x => !decide (t = 0) && decide (x.Thing = t)) (fun i => (gt l (i : Int)).Id) (step := XK l t)
  (fun i hi => by
   simp only [XK, Qx hi, Qg hi, Qw hi, QL (show (i : Int) < 9223372036854775807 by omega), cond_true, Qa]
   cases decide (t = 0) <;> cases decide (l[i].Thing = t) <;> rfl)
  (by simp only [XK, QI (Nat.le_refl _), cond_false])
 unfold Jr QaR
 rw [hr]
 cases decide (t = 0) with
 | true =>
  have : l.findIdx? (fun x => !true && decide (x.Thing = t)) = none := by rw [List.findIdx?_eq_none_iff]; intro x _; rfl
  rw [this]; rfl
 | false =>
  have e : (fun x : Slot => !false && decide (x.Thing = t)) = (fun x : Slot => decide (x.Thing = t)) := by funext x; simp
  rw [e]
  cases l.findIdx? (fun x => decide (x.Thing = t)) with
  | none => rfl
  | some i =>
   simp only [Option.bind_some, evO, Bool.false_or, decide_eq_false (show ¬ (i : Int) < 0 by omega), cond_false]
def Qbl (l : List Slot) (t : Int) : Bool := !(decide (t = 0) || decide (QaR l t < 0))
theorem QeD (l : List Slot) (t : Int) (hl : l.length ≤ 1048576) : ∃ c, Xn l t = some c ∧ decide (c < 0) = !Qbl l t := by
 rw [QgP l t hl]
 unfold Qbl
 cases decide (t = 0) with
 | true => exact ⟨-1, rfl, rfl⟩
 | false => exact ⟨QaR l t, rfl, by simp⟩
end Go.Proofs.YtponohekgnklkaaGreat
namespace Go.Proofs.YtponohekgnklkaaGreat
open Go
set_option linter.unusedVariables false
set_option linter.unusedSimpArgs false
theorem Qui (l : List Hand) (x : Hand) (hl : l.length ≤ 1048576) : ∃ r, Qca l x = some r ∧ QbX l x = some r ∧ r.1.length ≤ 1048576 := by
 have hrm : rm (0 + l.length) 40 = true := Vy (by omega) (by omega)
 have hrm1 : rm (l.length + 1) 40 = true := Vy (by omega) (by omega)
 unfold Qca QbX VZ
 have tail : ∀ s : Int, ∃ r, ((JZ s x).bind fun r => nd (rm (0 + l.length) 40) <| nd (rm (l.length + 1) 40) <| (VO (l ++ [(⟨x.Thing, x.Holder, x.Who, x.At, r⟩ : Hand)])).bind fun r2 => (bif (!r2) then nd (rm (0 + l.length) 40) <| some (l, false) else some (l ++ [(⟨x.Thing, x.Holder, x.Who, x.At, r⟩ : Hand)], true))) = some r ∧
   ((Jh s x).bind fun r => (nd (rm (0 + l.length) 40) <| some l).bind fun r2 => nd (rm (r2.length + 1) 40) <| (Xa (r2 ++ [(⟨x.Thing, x.Holder, x.Who, x.At, r⟩ : Hand)])).bind fun r3 => (bif (!r3) then (nd (rm (0 + l.length) 40) <| some l).bind fun r4 => some (r4, false) else some (r2 ++ [(⟨x.Thing, x.Holder, x.Who, x.At, r⟩ : Hand)], true))) = some r ∧ r.1.length ≤ 1048576 := by
  intro s
  obtain ⟨c, c1, c2⟩ := Qm7 s x
  obtain ⟨b, b1, b2, b3⟩ := Qpt (l ++ [(⟨x.Thing, x.Holder, x.Who, x.At, c⟩ : Hand)])
  simp only [c1, c2, Option.bind_some, hrm, hrm1, Qa, b1, b2]
  cases b with
  | false => exact ⟨(l, false), rfl, rfl, hl⟩
  | true => exact ⟨_, rfl, rfl, by have := (b3 rfl).1; show (l ++ _).length ≤ _; omega⟩
 by_cases h0 : 0 < l.length
 ·simp only [show decide (0 < ln l) = true from decide_eq_true (by rw [Q5]; omega), cond_true, show w64 (ln l - 1) = ((l.length - 1 : Nat) : Int) from by rw [Q5, Q9] <;> omega, Qg (show l.length - 1 < l.length by omega), Qa]
  exact tail _
 ·simp only [show decide (0 < ln l) = false from decide_eq_false (by rw [Q5]; omega), cond_false]
  exact tail 0
end Go.Proofs.YtponohekgnklkaaGreat
namespace Go.Proofs.YtponohekgnklkaaGreat
open Go
set_option linter.unusedVariables false
set_option linter.unusedSimpArgs false
theorem QxY (l : List Slot) (t : Int) (hl : l.length ≤ 1048576) : ∃ r, Qb2 l t = some r ∧ QbY l t = some r ∧ r.1.length = l.length ∧ (Qbl l t = false → r.2 = false) ∧ (r.2 = true → t ≠ 0 ∧ Xk l = some true ∧ ∃ (k : Nat) (hk : k < l.length), l[k].Thing = t ∧ r.1 = l.set k ⟨l[k].Id, l[k].Size, 0⟩) := by
 obtain ⟨c, c1, c2, c3⟩ := QkJ l hl
 have hrm : rm (0 + l.length) 24 = true := Vy (by omega) (by omega)
 unfold Qb2 QbY Xd Qbl
 simp only [hrm, Qa, c1, c2, QlG l t hl, QgP l t hl, Option.bind_some]
 cases c with
 | false => exact ⟨(l, false), rfl, rfl, rfl, fun _ => rfl, fun h => by cases h⟩
 | true =>
  obtain ⟨s1, s2, s3⟩ := c3 rfl
  cases ht : decide (t = 0) with
  | true => exact ⟨(l, false), rfl, rfl, rfl, fun _ => rfl, fun h => by cases h⟩
  | false =>
   rcases Qei l t with ⟨_, h2⟩ | ⟨k, hk, h2, h3, _⟩
   ·rw [h2]; exact ⟨(l, false), rfl, rfl, rfl, fun _ => rfl, fun h => by cases h⟩
   ·rw [h2]
    have hid : 1 ≤ l[k].Id := s2 _ (List.getElem_mem hk)
    simp only [Bool.false_or, Bool.not_true, cond_false, decide_eq_false (show ¬ (k : Int) < 0 by omega), Qw hk, Qg hk, Qa, decide_eq_false (show ¬ l[k].Id = 0 by omega), Int.toNat_natCast]
    have hr := XF (step := Xs l[k].Id) (fun i => (if i ≤ k then l else l.set k ⟨l[k].Id, l[k].Size, 0⟩, (i : Int))) (r := l.set k ⟨l[k].Id, l[k].Size, 0⟩) l.length (fun i hi => by
      have hw := QL (show (i : Int) < 9223372036854775807 by omega)
      by_cases hik : i < k
      ·have hne : ¬ l[i].Id = l[k].Id := fun e => by have := QfG l s3 i k hi hk e; omega
       simp only [Xs, if_pos (show i ≤ k by omega), if_pos (show i + 1 ≤ k by omega), Qx hi, Qg hi, Qw hi, hw, decide_eq_false hne, cond_true, cond_false, Qa]
      ·by_cases hek : i = k
       ·subst hek
        simp only [Xs, if_pos (Nat.le_refl i), if_neg (show ¬ i + 1 ≤ i by omega), Qx hi, Qg hi, Qw hi, hw, decide_true, cond_true, Qa, Int.toNat_natCast]
       ·have hne : ¬ l[i].Id = l[k].Id := fun e => by have := QfG l s3 i k hi hk e; omega
        have hi' : i < (l.set k ⟨l[k].Id, l[k].Size, 0⟩).length := by rw [List.length_set]; exact hi
        have hg : gt (l.set k ⟨l[k].Id, l[k].Size, 0⟩) (i : Int) = l[i] := by rw [QpH l k _ i hi, if_neg hek, Qw hi]
        simp only [Xs, if_neg (show ¬ i ≤ k by omega), if_neg (show ¬ i + 1 ≤ k by omega), Qx hi', Qg hi', hg, hw, decide_eq_false hne, cond_true, cond_false, Qa])
     (by
      simp only [Xs, if_neg (show ¬ l.length ≤ k by omega)]
      rw [show decide ((l.length : Int) < ln (l.set k ⟨l[k].Id, l[k].Size, 0⟩)) = false from decide_eq_false (by rw [Q5, List.length_set]; omega)]
      rfl)
    simp only [show run (Xs l[k].Id) (l, 0) = some (l.set k ⟨l[k].Id, l[k].Size, 0⟩) from hr, Option.bind_some]
    exact ⟨_, rfl, rfl, List.length_set, fun h => (by simp at h), fun _ => ⟨of_decide_eq_false ht, trivial, k, hk, h3, rfl⟩⟩
theorem QAB (l : List Slot) (t : Int) (hl : l.length ≤ 1048576) : ∃ r, Qb2 l t = some r ∧ QbY l t = some r ∧ r.1.length = l.length ∧ (Qbl l t = false → r.2 = false) := by
 obtain ⟨r, r1, r2, r3, r4, _⟩ := QxY l t hl
 exact ⟨r, r1, r2, r3, r4⟩
theorem QoY (h : House) (t p w : Int) (hm : Qh h) : ∃ r, ZX h t p w = some r ∧ ZS h t p w = some r ∧ Qh r.1 ∧ (Qbl h.Slots t = false → r.2 = false) ∧ r.1.Book = h.Book ∧ r.1.Now = h.Now ∧ r.1.No = h.No := by
 have hm7 := hm
 obtain ⟨m1, m2, m3, m4, m5, m6, m7⟩ := hm7
 obtain ⟨a, a1, a2, a3, a4⟩ := QAB h.Slots t m3
 obtain ⟨b, b1, b2, b3⟩ := Qui h.Chain ⟨t, p, w, h.Now, 0⟩ m6
 unfold ZX ZS
 simp only [XL h hm, X9 h hm, a1, a2, b1, b2, Option.bind_some]
 have w1 : Qh ⟨h.No, h.Finds, h.Secrets, a.1, h.Claims, h.Trials, b.1, h.Book, h.Now⟩ := smH hm m1 m2 (by omega) m4 m5 b3 m7
 cases ha : a.2 with
 | true => exact ⟨_, rfl, rfl, w1, (fun hs => by rw [a4 hs] at ha; cases ha), rfl, rfl, rfl⟩
 | false => exact ⟨_, rfl, rfl, w1, (fun _ => rfl), rfl, rfl, rfl⟩
end Go.Proofs.YtponohekgnklkaaGreat
namespace Go.Proofs.YtponohekgnklkaaGreat
open Go
set_option linter.unusedVariables false
set_option linter.unusedSimpArgs false
def X3 (l : List Claim) (t : Int) : Nat → Int
 | 0 => -1
 | n + 1 => if (gt l (n : Int)).Thing = t ∧ (gt l (n : Int)).State = 1 ∧ (X3 l t n < 0 ∨ (gt l (n : Int)).At < (gt l (X3 l t n)).At) then (n : Int) else X3 l t n
theorem Qhb (l : List Claim) (t : Int) : ∀ n, X3 l t n = -1 ∨ ∃ j : Nat, j < n ∧ X3 l t n = (j : Int)
 | 0 => .inl rfl
 | n + 1 => by
  unfold X3
  split
  ·exact .inr ⟨n, by omega, rfl⟩
  ·rcases Qhb l t n with h | ⟨j, h1, h2⟩
   ·exact .inl h
   ·exact .inr ⟨j, by omega, h2⟩
theorem Qk6 (l : List Claim) (t : Int) (hl : l.length ≤ 1048576) : ∃ c, Zf l t = some c ∧ J5 l t = some c ∧ (c = 0 ∨ ∃ k : Nat, ∃ hk : k < l.length, l[k].Id = c) := by
 have hcase : ∀ i : Nat, (X3 l t (i + 1) = (i : Int) ∧ (gt l (i : Int)).Thing = t ∧ (gt l (i : Int)).State = 1 ∧ (X3 l t i = -1 ∨ ∃ j : Nat, j < i ∧ X3 l t i = (j : Int) ∧ (gt l (i : Int)).At < (gt l (j : Int)).At)) ∨
   (X3 l t (i + 1) = X3 l t i ∧ (¬ (gt l (i : Int)).Thing = t ∨ ¬ (gt l (i : Int)).State = 1 ∨ ∃ j : Nat, j < i ∧ X3 l t i = (j : Int) ∧ ¬ (gt l (i : Int)).At < (gt l (j : Int)).At)) := by
  intro i
  have e : X3 l t (i + 1) = (if (gt l (i : Int)).Thing = t ∧ (gt l (i : Int)).State = 1 ∧ (X3 l t i < 0 ∨ (gt l (i : Int)).At < (gt l (X3 l t i)).At) then (i : Int) else X3 l t i) := rfl
  by_cases hc : (gt l (i : Int)).Thing = t ∧ (gt l (i : Int)).State = 1 ∧ (X3 l t i < 0 ∨ (gt l (i : Int)).At < (gt l (X3 l t i)).At)
  ·rw [if_pos hc] at e
   refine .inl ⟨e, hc.1, hc.2.1, ?_⟩
   rcases Qhb l t i with h | ⟨j, hj, h⟩
   ·exact .inl h
   ·refine .inr ⟨j, hj, h, ?_⟩
    rcases hc.2.2 with h' | h'
    ·omega
    ·rw [h] at h'; exact h'
  ·rw [if_neg hc] at e
   refine .inr ⟨e, ?_⟩
   by_cases h1 : (gt l (i : Int)).Thing = t
   ·by_cases h2 : (gt l (i : Int)).State = 1
    ·rcases Qhb l t i with h | ⟨j, hj, h⟩
     ·exact absurd ⟨h1, h2, .inl (by omega)⟩ hc
     ·refine .inr (.inr ⟨j, hj, h, fun h' => hc ⟨h1, h2, .inr (by rw [h]; exact h')⟩⟩)
    ·exact .inr (.inl h2)
   ·exact .inl h1
 have hs := XF (step := Vm l t) (fun i => (X3 l t i, (i : Int))) (r := X3 l t l.length) l.length (fun i hi => by
   have hw := QL (show (i : Int) < 9223372036854775807 by omega)
   rcases hcase i with ⟨e, h1, h2, h3 | ⟨j, hj, h3, h4⟩⟩ | ⟨e, h1 | h2 | ⟨j, hj, h3, h4⟩⟩
   ·simp only [Vm, e, h3, h1, h2, Qx hi, Qg hi, hw, decide_true, cond_true, Qa]; rfl
   ·simp only [Vm, e, h3, h1, h2, Qx hi, Qg hi, hw, decide_true, cond_true, Qa, Qg (show j < l.length by omega), decide_eq_false (show ¬ (j : Int) < 0 by omega), cond_false, decide_eq_true h4]; rfl
   ·simp only [Vm, e, decide_eq_false h1, Qx hi, Qg hi, hw, cond_true, cond_false, Qa]; rfl
   ·cases decide ((gt l (i : Int)).Thing = t) <;> simp only [Vm, e, decide_eq_false h2, Qx hi, Qg hi, hw, cond_true, cond_false, Qa] <;> cases decide ((gt l (i : Int)).Thing = t) <;> rfl
   ·simp only [Vm, e, h3, Qx hi, Qg hi, hw, cond_true, cond_false, Qa, Qg (show j < l.length by omega), decide_eq_false (show ¬ (j : Int) < 0 by omega), decide_eq_false h4]
    cases decide ((gt l (i : Int)).Thing = t) <;> cases decide ((gt l (i : Int)).State = 1) <;> rfl)
  (by simp only [Vm, QI (Nat.le_refl _), cond_false])
 have hi := XF (step := Vl t l (ln l)) (fun i => (bif decide (X3 l t i < 0) then (⟨0, 0, 0, 0, 0⟩ : Claim) else gt l (X3 l t i), decide (0 ≤ X3 l t i), (i : Int))) (r := bif decide (X3 l t l.length < 0) then (⟨0, 0, 0, 0, 0⟩ : Claim) else gt l (X3 l t l.length)) l.length (fun i hi => by
   have hw := QL (show (i : Int) < 9223372036854775807 by omega)
   have hn : decide ((i : Int) < 0) = false := decide_eq_false (by omega)
   have hn' : decide (0 ≤ (i : Int)) = true := decide_eq_true (by omega)
   rcases hcase i with ⟨e, h1, h2, h3 | ⟨j, hj, h3, h4⟩⟩ | ⟨e, h1 | h2 | ⟨j, hj, h3, h4⟩⟩
   ·simp only [Vl, e, h3, h1, h2, Qx hi, Qg hi, hw, decide_true, cond_true, Qa, hn, hn']; rfl
   ·simp only [Vl, e, h3, h1, h2, Qx hi, Qg hi, hw, decide_true, cond_true, Qa, hn, hn', decide_eq_false (show ¬ (j : Int) < 0 by omega), decide_eq_true (show 0 ≤ (j : Int) by omega), cond_false, decide_eq_true h4]; rfl
   ·simp only [Vl, e, decide_eq_false h1, Qx hi, Qg hi, hw, cond_true, cond_false, Qa]; rfl
   ·simp only [Vl, e, decide_eq_false h2, Qx hi, Qg hi, hw, cond_true, cond_false, Qa]
    cases decide ((gt l (i : Int)).Thing = t) <;> rfl
   ·simp only [Vl, e, h3, Qx hi, Qg hi, hw, cond_true, cond_false, Qa, decide_eq_false (show ¬ (j : Int) < 0 by omega), decide_eq_true (show 0 ≤ (j : Int) by omega), decide_eq_false h4]
    cases decide ((gt l (i : Int)).Thing = t) <;> cases decide ((gt l (i : Int)).State = 1) <;> rfl)
  (by simp only [Vl, QI (Nat.le_refl _), cond_false])
 have hi' : run (Vl t l (ln l)) ((⟨0, 0, 0, 0, 0⟩ : Claim), false, 0) = some (bif decide (X3 l t l.length < 0) then (⟨0, 0, 0, 0, 0⟩ : Claim) else gt l (X3 l t l.length)) := hi
 unfold Zf J5
 rw [show run (Vm l t) ((-1), 0) = some (X3 l t l.length) from hs, hi']
 rcases Qhb l t l.length with h | ⟨j, hj, h⟩
 ·rw [h]; exact ⟨0, rfl, rfl, .inl rfl⟩
 ·rw [h]
  simp only [Option.bind_some, decide_eq_false (show ¬ (j : Int) < 0 by omega), cond_false, Qg hj, Qw hj, Qa]
  exact ⟨_, rfl, rfl, .inr ⟨j, hj, rfl⟩⟩
theorem QkD (l : List Find) (id : Int) : Zu l id = -1 ∨ ∃ k : Nat, k < l.length ∧ Zu l id = (k : Int) := by
 unfold Zu
 cases hf : l.findIdx? (fun x => decide (x.Thing.Id = id)) with
 | none => exact .inl rfl
 | some i =>
  obtain ⟨hi, hp⟩ := QbT hf
  exact .inr ⟨i, hi, rfl⟩
end Go.Proofs.YtponohekgnklkaaGreat
namespace Go.Proofs.YtponohekgnklkaaGreat
open Go
set_option linter.unusedVariables false
set_option linter.unusedSimpArgs false
theorem QrB (l : List Entry) (x : Entry) (hl : l.length ≤ 1048576) : ∃ r, Qbi l x = some r ∧ J3 l x = some r ∧ r.1.length ≤ 1048576 := by
 have hrm : rm (0 + l.length) 32 = true := Vy (by omega) (by omega)
 have hrm1 : rm (l.length + 1) 32 = true := Vy (by omega) (by omega)
 obtain ⟨b, b1, b2, b3⟩ := Qlb (l ++ [x]) (by simp; omega)
 unfold Qbi J3 XD
 simp only [hrm, hrm1, Qa, Option.bind_some, b1, b2]
 cases b with
 | false => exact ⟨(l, false), rfl, rfl, hl⟩
 | true => exact ⟨_, rfl, rfl, by have := (b3 rfl).1; show (l ++ _).length ≤ _; omega⟩
end Go.Proofs.YtponohekgnklkaaGreat
namespace Go.Proofs.YtponohekgnklkaaGreat
open Go
set_option linter.unusedVariables false
set_option linter.unusedSimpArgs false
theorem QHA (x : Thing) (d : Int) : ∃ c, QdO x d = some c ∧ QdL x d = some c := by
 unfold QdO QdL
 rw [show ZQ x = XX x from rfl]
 obtain ⟨b, b1, _, _⟩ := Qjx x
 rw [b1]
 simp only [Option.bind_some, Qe, Qb]
 cases b with
 | false => exact ⟨0, rfl, rfl⟩
 | true =>
  cases hd : (decide (0 ≤ d) && decide (d ≤ 1000)) with
  | false => exact ⟨0, rfl, rfl⟩
  | true =>
   simp only [Bool.and_eq_true, decide_eq_true_eq] at hd
   have hw : 0 ≤ x.Worth ∧ x.Worth ≤ 10000000 := by
    unfold XX Qe at b1
    simp only [Option.bind_some] at b1
    revert b1
    cases (decide (1 ≤ x.Id) && decide (x.Id ≤ 999)) <;> cases (decide (1 ≤ x.Kind) && decide (x.Kind ≤ 8)) <;> cases (decide (0 ≤ x.Colour) && decide (x.Colour ≤ 7)) <;> cases (decide (1 ≤ x.Size) && decide (x.Size ≤ 50)) <;> simp
   have ht0 := Int.tdiv_nonneg hw.1 (show (0 : Int) ≤ 10 by omega)
   have ht1 : x.Worth.tdiv 10 ≤ x.Worth := by
    rw [Int.tdiv_eq_ediv_of_nonneg hw.1]; omega
   simp only [Bool.not_true, cond_false, Option.bind_some, Qc6]
   rw [Q9 (show _ ≤ 10 * d by omega) (by omega), Q9 (show _ ≤ 100 + 10 * d by omega) (by omega), Q9 (show _ ≤ x.Worth.tdiv 10 by omega) (by omega)]
   by_cases h : x.Worth.tdiv 10 < 100 + 10 * d
   ·rw [decide_eq_true h, if_pos h]
    refine ⟨_, rfl, ?_⟩
    by_cases h' : 0 < x.Worth.tdiv 10
    ·rw [if_pos h']
    ·rw [if_neg h']; congr 1; omega
   ·rw [decide_eq_false h, if_neg h]
    refine ⟨_, rfl, ?_⟩
    rw [if_pos (by omega)]
theorem Qoj (h : House) (t : Int) (hm : Qh h) : ∃ r, XW h t = some r ∧ QbJ h t = some r ∧ Qh r.1 := by
 have hm7 := hm
 obtain ⟨m1, m2, m3, m4, m5, m6, m7⟩ := hm7
 obtain ⟨p, p1, p2, p3⟩ := Qk6 h.Claims t m4
 obtain ⟨w, w1, w2⟩ := QeD h.Slots t m3
 unfold XW QbJ QaE
 simp only [p1, p2, (Jw h.Finds t m1).1, (Jw h.Finds t m1).2, (XH h hm).1, (XH h hm).2, XL h hm, X9 h hm, w1, w2, Option.bind_some]
 rcases QkD h.Finds t with hx | ⟨k, hk, hx⟩
 ·rw [hx]
  refine ⟨(h, false), ?_, ?_, hm⟩
  ·cases decide (p = 0) <;> rfl
  ·cases X4 h <;> rfl
 ·rw [hx, decide_eq_false (show ¬ (k : Int) < 0 by omega)]
  cases hb : X4 h with
  | false => exact ⟨(h, false), by cases decide (p = 0) <;> rfl, rfl, hm⟩
  | true =>
   by_cases hp : p = 0
   ·rw [decide_eq_true hp]
    refine ⟨(h, false), rfl, ?_, hm⟩
    cases Qbl h.Slots t with
    | false => rfl
    | true => simp only [Qg hk, Qa]; rfl
   ·rw [decide_eq_false hp]
    obtain ⟨j, hj, hjd⟩ := p3.resolve_left hp
    obtain ⟨c, hc, hcx, hcid⟩ := Qlc h.Claims p j hj hjd
    obtain ⟨g, g1, g2, g3, g4, g5, g6, g7⟩ := QoY h t 3 h.Claims[c].Who hm
    obtain ⟨s, s1, s2, s3⟩ := QwB h.Claims p 3 m4
    obtain ⟨f, f1, f2⟩ := QHA (h.Finds[k]).Thing (w64 ((w64 (h.Now - (h.Finds[k]).At)).tdiv 24))
    obtain ⟨e, e1, e2, e3⟩ := QrB h.Book ⟨h.Claims[c].Who, 0, f, h.Now⟩ m7
    have hm7' := g3
    obtain ⟨n1, n2, n3, n4, n5, n6, n7⟩ := hm7'
    have o1 : Qh ⟨g.1.No, g.1.Finds, g.1.Secrets, g.1.Slots, s.1, g.1.Trials, g.1.Chain, g.1.Book, g.1.Now⟩ := ⟨n1, n2, n3, by show s.1.length ≤ _; omega, n5, n6, n7⟩
    have o2 : Qh ⟨g.1.No, g.1.Finds, g.1.Secrets, g.1.Slots, s.1, g.1.Trials, g.1.Chain, e.1, g.1.Now⟩ := ⟨n1, n2, n3, by show s.1.length ≤ _; omega, n5, n6, e3⟩
    have hpay : ZW ⟨g.1.No, g.1.Finds, g.1.Secrets, g.1.Slots, s.1, g.1.Trials, g.1.Chain, g.1.Book, g.1.Now⟩ h.Claims[c].Who 0 f =
      some (bif decide (f = 0) then (⟨g.1.No, g.1.Finds, g.1.Secrets, g.1.Slots, s.1, g.1.Trials, g.1.Chain, g.1.Book, g.1.Now⟩, true) else (⟨g.1.No, g.1.Finds, g.1.Secrets, g.1.Slots, s.1, g.1.Trials, g.1.Chain, e.1, g.1.Now⟩, e.2)) := by
     unfold ZW
     simp only [g5, g6, e1, Option.bind_some]
     cases decide (f = 0) <;> rfl
    have hin : (bif Qbl h.Slots t then g.2 else false) = g.2 := by
     cases hi : Qbl h.Slots t with
     | true => rfl
     | false => rw [g4 hi]; rfl
    simp only [cond_false, Bool.not_true, Option.bind_some, (Qb4 h.Claims p m4).1, (Qb4 h.Claims p m4).2, hcx, Qg hc, Qw hc, Qg hk, Qw hk, Qa, g1, s1, f1, hpay]
    have hspec : ∀ b : Bool, (bif b then (bif s.2 then (Qq h (bif decide (f = 0) then (⟨g.1.No, g.1.Finds, g.1.Secrets, g.1.Slots, s.1, g.1.Trials, g.1.Chain, g.1.Book, g.1.Now⟩, true) else (⟨g.1.No, g.1.Finds, g.1.Secrets, g.1.Slots, s.1, g.1.Trials, g.1.Chain, e.1, g.1.Now⟩, e.2) : House × Bool).1 (bif decide (f = 0) then (⟨g.1.No, g.1.Finds, g.1.Secrets, g.1.Slots, s.1, g.1.Trials, g.1.Chain, g.1.Book, g.1.Now⟩, true) else (⟨g.1.No, g.1.Finds, g.1.Secrets, g.1.Slots, s.1, g.1.Trials, g.1.Chain, e.1, g.1.Now⟩, e.2) : House × Bool).2).bind fun r10 => some (r10.1, r10.2) else (Qq h (bif decide (f = 0) then (⟨g.1.No, g.1.Finds, g.1.Secrets, g.1.Slots, s.1, g.1.Trials, g.1.Chain, g.1.Book, g.1.Now⟩, true) else (⟨g.1.No, g.1.Finds, g.1.Secrets, g.1.Slots, s.1, g.1.Trials, g.1.Chain, e.1, g.1.Now⟩, e.2) : House × Bool).1 false).bind fun r11 => some (r11.1, r11.2)) else (Qq h (bif decide (f = 0) then (⟨g.1.No, g.1.Finds, g.1.Secrets, g.1.Slots, s.1, g.1.Trials, g.1.Chain, g.1.Book, g.1.Now⟩, true) else (⟨g.1.No, g.1.Finds, g.1.Secrets, g.1.Slots, s.1, g.1.Trials, g.1.Chain, e.1, g.1.Now⟩, e.2) : House × Bool).1 false).bind fun r12 => some (r12.1, r12.2)) =
      some (bif decide (f = 0) then Qcf h ⟨g.1.No, g.1.Finds, g.1.Secrets, g.1.Slots, s.1, g.1.Trials, g.1.Chain, g.1.Book, g.1.Now⟩ (b && s.2) else Qcf h ⟨g.1.No, g.1.Finds, g.1.Secrets, g.1.Slots, s.1, g.1.Trials, g.1.Chain, e.1, g.1.Now⟩ (b && (s.2 && e.2))) := by
     intro b
     cases decide (f = 0) with
     | true =>
      simp only [cond_true, QcU h _ _ hm o1, Option.bind_some]
      cases b <;> cases s.2 <;> rfl
     | false =>
      simp only [cond_false, QcU h _ _ hm o2, Option.bind_some]
      cases b <;> cases s.2 <;> rfl
    rw [hspec]
    refine ⟨_, rfl, ?_, ?_⟩
    ·cases hi : Qbl h.Slots t with
     | false =>
      rw [g4 hi]
      simp only [Bool.not_false, Option.bind_some, cond_true, Bool.not_false, Bool.true_or, Bool.false_and, QeQ]
      cases decide (f = 0) <;> rfl
     | true =>
      simp only [Bool.not_true, Option.bind_some, cond_false, Bool.or_false, Bool.false_or, decide_eq_false hp, (Qb4 h.Claims p m4).2, hcx, Qg hc, Qw hc, Qg hk, Qw hk, Qa, g2, s2, f2]
      cases hf : decide (f = 0) with
      | true =>
       simp only [Bool.not_true, cond_false, cond_true, Qbt h _ _ hm o1 (show [g.2, s.2, true].length ≤ 1048576 by simp), Option.bind_some, List.all_cons, List.all_nil, Bool.and_true, id_eq]
      | false =>
       simp only [Bool.not_false, cond_false, cond_true, e2, Qbt h _ _ hm o2 (show [g.2, s.2, e.2].length ≤ 1048576 by simp), Option.bind_some, List.all_cons, List.all_nil, Bool.and_true, id_eq]
    ·cases decide (f = 0) with
     | true => exact Qam _ _ _ hm o1
     | false => exact Qam _ _ _ hm o2
end Go.Proofs.YtponohekgnklkaaGreat
namespace Go.Proofs.YtponohekgnklkaaGreat
open Go
set_option linter.unusedVariables false
set_option linter.unusedSimpArgs false
theorem Qp0 (f : Find) : ∃ b, X2 f = some b ∧ (b = true → 1 ≤ f.Thing.Kind ∧ f.Thing.Kind ≤ 8) := by
 unfold X2 XX Qe
 simp only [Option.bind_some]
 cases h1 : (decide (1 ≤ f.Thing.Id) && decide (f.Thing.Id ≤ 999)) with
 | false => exact ⟨false, rfl, fun h => by cases h⟩
 | true =>
  cases h2 : (decide (1 ≤ f.Thing.Kind) && decide (f.Thing.Kind ≤ 8)) with
  | false => exact ⟨false, rfl, fun h => by cases h⟩
  | true =>
   have hk : 1 ≤ f.Thing.Kind ∧ f.Thing.Kind ≤ 8 := by simpa using h2
   simp only [cond_true]
   cases (decide (0 ≤ f.Thing.Colour) && decide (f.Thing.Colour ≤ 7)) <;> cases (decide (1 ≤ f.Thing.Size) && decide (f.Thing.Size ≤ 50)) <;> cases (decide (0 ≤ f.Thing.Worth) && decide (f.Thing.Worth ≤ 10000000)) <;>
    cases (decide (1 ≤ f.Place) && decide (f.Place ≤ 30)) <;> cases (decide (0 ≤ f.At) && decide (f.At ≤ 100000)) <;> cases (decide (0 ≤ f.Finder) && decide (f.Finder ≤ 999)) <;> exact ⟨_, rfl, fun _ => hk⟩
theorem Qyn (k : Int) (h1 : 1 ≤ k) (h2 : k ≤ 8) : ∃ d, QhT k = some d ∧ Qdy k = some d := by
 have : k = 1 ∨ k = 2 ∨ k = 3 ∨ k = 4 ∨ k = 5 ∨ k = 6 ∨ k = 7 ∨ k = 8 := by omega
 rcases this with rfl | rfl | rfl | rfl | rfl | rfl | rfl | rfl <;> exact ⟨_, rfl, rfl⟩
theorem QOj (f : Find) (now : Int) : ∃ b, QiA f now = some b ∧ Qes f now = some b := by
 obtain ⟨b, h1, h2⟩ := Qp0 f
 unfold QiA Qes Qi7 Qd8
 rw [show QaB f = X2 f from rfl, h1]
 cases b with
 | false => exact ⟨false, rfl, rfl⟩
 | true =>
  obtain ⟨k1, k2⟩ := h2 rfl
  obtain ⟨d, h3, h4⟩ := Qyn f.Thing.Kind k1 k2
  simp only [Option.bind_some, cond_true, cond_false, Bool.not_true, h3, h4]
  exact ⟨_, rfl, rfl⟩
theorem Qyf (f : Find) (l : List Claim) (now : Int) (hl : l.length ≤ 1048576) : ∃ c, QeI f l now = some c ∧ QcQ f l now = some c := by
 obtain ⟨p, p1, p2, _⟩ := Qk6 l f.Thing.Id hl
 obtain ⟨d, d1, d2⟩ := QOj f now
 have hs := Qg7 l (fun x => decide (x.Thing = f.Thing.Id) && decide (x.State = 0)) (r := (0 : Int)) (step := Qc4 l now f)
  (fun i hi => by
   simp only [Qc4, Qx hi, Qg hi, Qw hi, QL (show (i : Int) < 9223372036854775807 by omega), cond_true, Qa, Option.bind_some]
   cases (decide (l[i].Thing = f.Thing.Id) && decide (l[i].State = 0)) <;> rfl)
  (by simp only [Qc4, QI (Nat.le_refl _), cond_false])
 have hi := XQ l (fun x => decide (x.Thing = f.Thing.Id) && decide (x.State = 0)) (fun i => (i : Int)) (step := QG l f.Thing (ln l))
  (fun i hi => by
   simp only [QG, Qdw, Qx hi, Qg hi, Qw hi, QL (show (i : Int) < 9223372036854775807 by omega), cond_true, Qa, Option.bind_some]
   cases (decide (l[i].Thing = f.Thing.Id) && decide (l[i].State = 0)) <;> rfl)
  (by simp only [QG, QI (Nat.le_refl _), cond_false])
 have hc : Q0 l f.Thing = some (l.any (fun x => decide (x.Thing = f.Thing.Id) && decide (x.State = 0))) := by
  unfold Q0 VE
  rw [hi]
  cases hf : l.findIdx? (fun x => decide (x.Thing = f.Thing.Id) && decide (x.State = 0)) with
  | none =>
   have : l.any (fun x => decide (x.Thing = f.Thing.Id) && decide (x.State = 0)) = false := by
    rw [List.any_eq_false]
    intro x hx
    have := List.findIdx?_eq_none_iff.1 hf x hx
    simpa using this
   rw [this]; rfl
  | some i =>
   obtain ⟨hi', hp⟩ := QbT hf
   rw [List.any_eq_true.2 ⟨_, List.getElem_mem hi', hp⟩]
   simp only [Option.bind_some, evO, decide_eq_true (show (0 : Int) ≤ (i : Int) by omega)]
 unfold QeI QcQ
 rw [p1, p2, d1, d2, hs, hc]
 simp only [Option.bind_some]
 have hlt : decide (f.Thing.Worth ≤ 5000) = !decide (5000 < f.Thing.Worth) := by
  by_cases h : 5000 < f.Thing.Worth
  ·rw [decide_eq_true h, decide_eq_false (by omega)]; rfl
  ·rw [decide_eq_false h, decide_eq_true (by omega)]; rfl
 rw [hlt]
 generalize l.any (fun x => decide (x.Thing = f.Thing.Id) && decide (x.State = 0)) = q
 cases decide (p = 0) <;> cases q <;> cases d <;> cases (decide (f.Thing.Kind = 7) || decide (f.Thing.Worth = 0)) <;> cases decide (5000 < f.Thing.Worth) <;> cases decide (f.Finder = 0) <;> exact ⟨_, rfl, rfl⟩
end Go.Proofs.YtponohekgnklkaaGreat
namespace Go.Proofs.YtponohekgnklkaaGreat
open Go
set_option linter.unusedVariables false
set_option linter.unusedSimpArgs false
theorem QxP (h : House) (out : House) (hm : Qh h) : Qas h out [false] = some (h, false) := by
 unfold Qas
 simp only [Qm0 [false] (by simp), X9 h hm, Option.bind_some]
 rfl
theorem Qvd (h : House) (t : Int) (hm : Qh h) : ∃ r, Qbz h t = some r ∧ QbA h t = some r ∧ Qh r.1 := by
 have hm7 := hm
 obtain ⟨m1, m2, m3, m4, m5, m6, m7⟩ := hm7
 obtain ⟨w, w1, w2⟩ := QeD h.Slots t m3
 unfold Qbz QbA QaE
 simp only [(Jw h.Finds t m1).1, (Jw h.Finds t m1).2, (XH h hm).1, (XH h hm).2, XL h hm, X9 h hm, w1, w2, Option.bind_some]
 rcases QkD h.Finds t with hx | ⟨k, hk, hx⟩
 ·rw [hx]
  refine ⟨(h, false), rfl, ?_, hm⟩
  cases X4 h <;> rfl
 ·rw [hx, decide_eq_false (show ¬ (k : Int) < 0 by omega)]
  cases hb : X4 h with
  | false => exact ⟨(h, false), rfl, rfl, hm⟩
  | true =>
   obtain ⟨f, f1, f2⟩ := Qyf h.Finds[k] h.Claims h.Now m4
   obtain ⟨a, a1, a2, a3, a4, _⟩ := QoY h t 3 (h.Finds[k]).Finder hm
   obtain ⟨b, b1, b2, b3, b4, _⟩ := QoY h t 5 0 hm
   simp only [cond_false, Bool.not_true, Option.bind_some, Qg hk, Qw hk, Qa, f1, a1, b1, QcU h _ _ hm a3, QcU h _ _ hm b3]
   refine ⟨bif decide (f = 2) then Qcf h a.1 a.2 else bif decide (f = 4) then Qcf h b.1 b.2 else bif decide (f = 5) then Qcf h b.1 b.2 else (h, false), ?_, ?_, ?_⟩
   ·cases decide (f = 2) <;> cases decide (f = 4) <;> cases decide (f = 5) <;> rfl
   ·cases hi : Qbl h.Slots t with
    | false =>
     rw [a4 hi, b4 hi]
     simp only [Bool.not_false, Option.bind_some, cond_true, QeQ]
     cases decide (f = 2) <;> cases decide (f = 4) <;> cases decide (f = 5) <;> rfl
    | true =>
     simp only [Bool.not_true, Option.bind_some, cond_false, Qg hk, Qw hk, Qa, f2, a2, b2, QxP h h hm, Qbt h _ _ hm a3 (show [a.2].length ≤ 1048576 by simp), Qbt h _ _ hm b3 (show [b.2].length ≤ 1048576 by simp), List.all_cons, List.all_nil, Bool.and_true, id_eq]
     cases decide (f = 2) <;> cases decide (f = 4) <;> cases decide (f = 5) <;> rfl
   ·cases decide (f = 2) <;> cases decide (f = 4) <;> cases decide (f = 5) <;> first | exact Qam _ _ _ hm a3 | exact Qam _ _ _ hm b3 | exact hm
end Go.Proofs.YtponohekgnklkaaGreat
