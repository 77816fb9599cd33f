import Derived.Test.YtcdffihcfeajfaaGreatPyHand
namespace Go.Proofs.YtcdffihcfeajfaaGreat
open Go
set_option linter.unusedVariables false
set_option linter.unusedSimpArgs false
theorem Qxk (l : List Slot) (t : Int) (hl : l.length ≤ 1048576) : ∃ r, Qbt l t = some r ∧ Qbz l t = some r ∧ r.1.length = l.length ∧ (Qd2 l t = false → r.2 = false) := by
 obtain ⟨c, c1, c2, c3⟩ := QmM l hl
 have hrm : rm (0 + l.length) 24 = true := V9 (by omega) (by omega)
 unfold Qbt Qbz Xm Qd2
 simp only [hrm, Qa, c1, c2, QvN l t hl, Qht l t hl, Option.bind_some]
 cases c with
 | false => exact ⟨(l, false), rfl, rfl, rfl, fun _ => rfl⟩
 | true =>
  obtain ⟨s1, s2, s3⟩ := c3 rfl
  cases ht : decide (t = 0) with
  | true => exact ⟨(l, false), rfl, rfl, rfl, fun _ => rfl⟩
  | false =>
   rcases Qgx l t with ⟨_, h2⟩ | ⟨k, hk, h2, h3, _⟩
   ·rw [h2]; exact ⟨(l, false), rfl, rfl, rfl, fun _ => rfl⟩
   ·rw [h2]
    have hid : 1 ≤ l[k].Id := s2 _ (List.getElem_mem hk)
    simp only [Bool.false_or, Bool.not_true, cond_false, decide_eq_false (show ¬ (k : Int) < 0 by omega), Qz hk, Qg hk, Qa, decide_eq_false (show ¬ l[k].Id = 0 by omega), Int.toNat_natCast]
    have hr := Qbv (step := Vw l[k].Id) (fun i => (if i ≤ k then l else l.set k ⟨l[k].Id, l[k].Size, 0⟩, (i : Int))) (r := l.set k ⟨l[k].Id, l[k].Size, 0⟩) l.length (fun i hi => by
      have hw := QP (show (i : Int) < 9223372036854775807 by omega)
      by_cases hik : i < k
      ·have hne : ¬ l[i].Id = l[k].Id := fun e => by have := Qk4 l s3 i k hi hk e; omega
       simp only [Vw, if_pos (show i ≤ k by omega), if_pos (show i + 1 ≤ k by omega), Qu hi, Qg hi, Qz hi, hw, decide_eq_false hne, cond_true, cond_false, Qa]
      ·by_cases hek : i = k
       ·subst hek
        simp only [Vw, if_pos (Nat.le_refl i), if_neg (show ¬ i + 1 ≤ i by omega), Qu hi, Qg hi, Qz hi, hw, decide_true, cond_true, Qa, Int.toNat_natCast]
       ·have hne : ¬ l[i].Id = l[k].Id := fun e => by have := Qk4 l s3 i k hi hk e; omega
        have hi' : i < (l.set k ⟨l[k].Id, l[k].Size, 0⟩).length := by rw [List.length_set]; exact hi
        have hg : gt (l.set k ⟨l[k].Id, l[k].Size, 0⟩) (i : Int) = l[i] := by rw [QqU l k _ i hi, if_neg hek, Qz hi]
        simp only [Vw, if_neg (show ¬ i ≤ k by omega), if_neg (show ¬ i + 1 ≤ k by omega), Qu hi', Qg hi', hg, hw, decide_eq_false hne, cond_true, cond_false, Qa])
     (by
      simp only [Vw, if_neg (show ¬ l.length ≤ k by omega)]
      rw [show decide ((l.length : Int) < ln (l.set k ⟨l[k].Id, l[k].Size, 0⟩)) = false from decide_eq_false (by rw [Vg, List.length_set]; omega)]
      rfl)
    simp only [show run (Vw l[k].Id) (l, 0) = some (l.set k ⟨l[k].Id, l[k].Size, 0⟩) from hr, Option.bind_some]
    exact ⟨_, rfl, rfl, List.length_set, fun h => by simp at h⟩
theorem Qzz (h : House) (t p w : Int) (hm : QZ h) : ∃ r, QcA h t p w = some r ∧ Qcx h t p w = some r ∧ QZ r.1 ∧ (Qd2 h.Slots t = false → r.2 = false) ∧ r.1.Book = h.Book ∧ r.1.Now = h.Now ∧ r.1.No = h.No := by
 have hm7 := hm
 obtain ⟨m1, m2, m3, m4, m5, m6, m7⟩ := hm7
 obtain ⟨a, a1, a2, a3, a4⟩ := Qxk h.Slots t m3
 obtain ⟨b, b1, b2, b3⟩ := Qw8 h.Chain ⟨t, p, w, h.Now, 0⟩ m6
 unfold QcA Qcx
 simp only [Qnr h hm, Qgt h hm, a1, a2, b1, b2, Option.bind_some]
 have w1 : QZ ⟨h.No, h.Finds, h.Secrets, a.1, h.Claims, h.Trials, b.1, h.Book, h.Now⟩ := smH hm m1 m2 (by omega) m4 m5 b3 m7
 cases ha : a.2 with
 | true => exact ⟨_, rfl, rfl, w1, (fun hs => by rw [a4 hs] at ha; cases ha), rfl, rfl, rfl⟩
 | false => exact ⟨_, rfl, rfl, w1, (fun _ => rfl), rfl, rfl, rfl⟩
end Go.Proofs.YtcdffihcfeajfaaGreat
