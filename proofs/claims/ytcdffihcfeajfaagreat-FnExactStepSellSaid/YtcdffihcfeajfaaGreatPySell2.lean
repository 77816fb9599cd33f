import Derived.Test.YtcdffihcfeajfaaGreatPySell
import Derived.Test.YtcdffihcfeajfaaGreatPyStp
namespace Go.Proofs.YtcdffihcfeajfaaGreat
open Go
set_option linter.unusedVariables false
set_option linter.unusedSimpArgs false
theorem QsA (l : List Find) (hl : l.length ≤ 1048576) (h : XW l = some true) : ∀ i (hi : i < l.length), 0 ≤ l[i].Finder ∧ l[i].Finder ≤ 999 := by
 have hb : ∀ f : Find, VQ f = some true → 0 ≤ f.Finder ∧ f.Finder ≤ 999 := by
  intro f hf
  obtain ⟨b, b1, _, _⟩ := Qoe f.Thing
  unfold VQ Qf at hf
  rw [b1] at hf
  simp only [Option.bind_some] at hf
  revert hf
  cases b <;> cases (decide (1 ≤ f.Place) && decide (f.Place ≤ 30)) <;> cases (decide (0 ≤ f.At) && decide (f.At ≤ 100000)) <;> simp
 intro i hi
 obtain ⟨b, h1, h2, h3⟩ := QcE (n := l.length) (r := false) (s1 := QU l) (s2 := QU l) (fun i hi _ => by
   obtain ⟨b, q1, q2, _⟩ := QhO l[i]
   simp only [QU, Qu hi, Qg hi, Qz hi, QP (show (i : Int) < 9223372036854775807 by omega), cond_true, Qa, q1, Option.bind_some]
   by_cases h0 : 0 < i
   ·simp only [show decide (0 < (i : Int)) = true from decide_eq_true (by omega), ZG h0 (by omega), Qg (show i - 1 < l.length by omega), cond_true, Qa]
    cases b <;> cases decide (l[i].Thing.Id ≤ (gt l ((i - 1 : Nat) : Int)).Thing.Id) <;> first | exact ⟨true, rfl, rfl⟩ | exact ⟨false, rfl, rfl⟩
   ·simp only [show decide (0 < (i : Int)) = false from decide_eq_false (by omega), cond_false]
    cases b <;> first | exact ⟨true, rfl, rfl⟩ | exact ⟨false, rfl, rfl⟩)
  (by simp only [QU, Qx (Nat.le_refl _), cond_false]) (by simp only [QU, Qx (Nat.le_refl _), cond_false])
 have he := (Zm (n := l.length) (k := 20) _ h1).1
 have hb' : b = true := by
  unfold XW at h
  rw [show (ln l : Int) = (l.length : Int) from rfl] at h
  rw [he] at h
  simp at h
  exact h.1
 have hstep := (h3 hb' i hi).1
 obtain ⟨c, q1, q2, q3⟩ := QhO l[i]
 simp only [QU, Qu hi, Qg hi, Qz hi, cond_true, Qa, q1, Option.bind_some] at hstep
 cases c with
 | true => exact hb _ q1
 | false => simp at hstep
theorem pay (h : House) (a b c : Int) (hm : QZ h) : ∃ r, ZZ h.Book ⟨a, b, c, h.Now⟩ = some r ∧ JQ h.Book ⟨a, b, c, h.Now⟩ = some r ∧ r.1.length ≤ 1048576 ∧
  Qbe h a b c = some (bif decide (c = 0) then (h, true) else (⟨h.No, h.Finds, h.Secrets, h.Slots, h.Claims, h.Trials, h.Chain, r.1, h.Now⟩, r.2)) := by
 obtain ⟨r, r1, r2, r3⟩ := Qud h.Book ⟨a, b, c, h.Now⟩ hm.2.2.2.2.2.2
 refine ⟨r, r1, r2, r3, ?_⟩
 unfold Qbe
 rw [r1]
 cases decide (c = 0) <;> rfl
theorem QkD (h x : House) (b : Bool) (hm : QZ h) (hx : QZ x) : ((Xc h x b).bind fun r => some (r.1, r.2)) = some (QdF h x b) := by
 rw [Qw6 h x b hm hx]; rfl
theorem QuP (h : House) (t : Int) (l : List Bid) (hm : QZ h) (hl : l.length ≤ 1048576) : ∃ r, QaL h t l = some r ∧ ZT h t l = some r ∧ QZ r.1 := by
 have hm7 := hm
 obtain ⟨m1, m2, m3, m4, m5, m6, m7⟩ := hm7
 obtain ⟨w, w1, w2⟩ := Qpz h.Slots t m3
 obtain ⟨⟨who, price⟩, p1, p2, p3⟩ := QBe l hl
 unfold QaL ZT Qdg
 simp only [p1, p2, (Qbg h.Finds t m1).1, (Qbg h.Finds t m1).2, (Qcc h hm).1, (Qcc h hm).2, Qnr h hm, Qgt h hm, w1, w2, Option.bind_some]
 rcases QsU h.Finds t with hx | ⟨k, hk, hx⟩
 ·rw [hx]
  refine ⟨(h, false), rfl, ?_, hm⟩
  cases QaH h <;> rfl
 ·rw [hx, decide_eq_false (show ¬ (k : Int) < 0 by omega)]
  rcases p3 with p3 | ⟨q1, q2, q3⟩
  ·injection p3 with e1 e2
   subst e1 e2
   refine ⟨(h, false), rfl, ?_, hm⟩
   cases QaH h with
   | false => rfl
   | true =>
    cases Qd2 h.Slots t with
    | false => rfl
    | true => simp only [Qg hk, Qa]; rfl
  ·simp only at q1 q2 q3
   rw [show decide (who = 0) = false from decide_eq_false (by omega)]
   cases hb : QaH h with
   | false => exact ⟨(h, false), rfl, rfl, hm⟩
   | true =>
    have ho := QsM h hm hb
    obtain ⟨f, f1, f2⟩ := QzT h.Finds[k] h.Claims h.Now m4
    have hfin := QsA h.Finds m1 ho.fS k hk
    obtain ⟨g, g1, g2, g3, g4, g5, g6, g7⟩ := Qzz h t 4 who hm
    simp only [cond_false, Bool.not_true, Option.bind_some, Qg hk, Qz hk, Qa, f1]
    by_cases hf : f = 3
    ·subst hf
     obtain ⟨s, s1, s2, s3⟩ := Qwv price h.Finds[k].Finder (by omega) (by omega)
     obtain ⟨e, e1, e2, e3, e4⟩ := pay g.1 who 0 price g3
     rw [g5, g6] at e1 e2
     have hpr : decide (price = 0) = false := decide_eq_false (by omega)
     rw [hpr] at e4
     have n := g3
     obtain ⟨n1, n2, n3, n4, n5, n6, n7⟩ := n
     have o1 : QZ ⟨g.1.No, g.1.Finds, g.1.Secrets, g.1.Slots, g.1.Claims, g.1.Trials, g.1.Chain, e.1, g.1.Now⟩ := ⟨n1, n2, n3, n4, n5, n6, e3⟩
     simp only [decide_true, Bool.not_true, cond_false, g1, e4, s1, Option.bind_some]
     rcases s3 with ⟨hno, rfl⟩ | ⟨hyes, a, b, rfl⟩
     ·have hf0 : h.Finds[k].Finder = 0 := by omega
      have hspec : (bif decide (ln ([⟨0, price⟩] : List Share) = 2) then (none : Option (House × Bool)) else some (h, false)) = some (h, false) := rfl
      simp only [show decide (ln ([⟨0, price⟩] : List Share) = 2) = false from rfl, cond_false, QkD h _ _ hm o1]
      refine ⟨QdF h ⟨g.1.No, g.1.Finds, g.1.Secrets, g.1.Slots, g.1.Claims, g.1.Trials, g.1.Chain, e.1, g.1.Now⟩ (g.2 && e.2), ?_, ?_, Qj1 _ _ _ hm o1⟩
      ·cases g.2 <;> rfl
      ·cases hi : Qd2 h.Slots t with
       | false => rw [g4 hi]; rfl
       | true =>
        simp only [Bool.not_true, cond_false, Qg hk, Qz hk, Qa, f2, Option.bind_some, decide_true, Bool.not_true, g2, e2, s2, show decide (h.Finds[k].Finder = 0) = true from decide_eq_true hf0]
        cases e.2 <;> simp only [cond_true, cond_false, Bool.not_true, Option.bind_some, QhR h _ _ hm o1 (show [g.2, true, true].length ≤ 1048576 by simp), QhR h _ _ hm o1 (show [g.2, false, true].length ≤ 1048576 by simp), List.all_cons, List.all_nil, Bool.and_true, id_eq]
     ·have hf0 : decide (h.Finds[k].Finder = 0) = false := decide_eq_false (by omega)
      obtain ⟨d, d1, d2, d3, d4⟩ := pay ⟨g.1.No, g.1.Finds, g.1.Secrets, g.1.Slots, g.1.Claims, g.1.Trials, g.1.Chain, e.1, g.1.Now⟩ 0 h.Finds[k].Finder a o1
      simp only [g6] at d1 d2
      have o2 : QZ ⟨g.1.No, g.1.Finds, g.1.Secrets, g.1.Slots, g.1.Claims, g.1.Trials, g.1.Chain, d.1, g.1.Now⟩ := ⟨n1, n2, n3, n4, n5, n6, d3⟩
      simp only [show decide (ln ([⟨h.Finds[k].Finder, a⟩, ⟨0, b⟩] : List Share) = 2) = true from rfl, cond_true, show inb ([⟨h.Finds[k].Finder, a⟩, ⟨0, b⟩] : List Share) 0 = true from rfl, Qa, show gt ([⟨h.Finds[k].Finder, a⟩, ⟨0, b⟩] : List Share) 0 = ⟨h.Finds[k].Finder, a⟩ from rfl, d4, Option.bind_some]
      refine ⟨bif decide (a = 0) then QdF h ⟨g.1.No, g.1.Finds, g.1.Secrets, g.1.Slots, g.1.Claims, g.1.Trials, g.1.Chain, e.1, g.1.Now⟩ (g.2 && e.2) else QdF h ⟨g.1.No, g.1.Finds, g.1.Secrets, g.1.Slots, g.1.Claims, g.1.Trials, g.1.Chain, d.1, g.1.Now⟩ (g.2 && (e.2 && d.2)), ?_, ?_, ?_⟩
      ·cases decide (a = 0) with
       | true => simp only [cond_true, QkD h _ _ hm o1]; cases g.2 <;> cases e.2 <;> rfl
       | false => simp only [cond_false, QkD h _ _ hm o2]; cases g.2 <;> cases e.2 <;> rfl
      ·cases hi : Qd2 h.Slots t with
       | false =>
        rw [g4 hi]
        simp only [Bool.not_false, Bool.false_and, QiY]
        cases decide (a = 0) <;> rfl
       | true =>
        simp only [Bool.not_true, cond_false, Qg hk, Qz hk, Qa, f2, Option.bind_some, decide_true, Bool.not_true, g2, e2, s2, hf0, Bool.not_false, show inb ([⟨h.Finds[k].Finder, a⟩, ⟨0, b⟩] : List Share) 0 = true from rfl, show gt ([⟨h.Finds[k].Finder, a⟩, ⟨0, b⟩] : List Share) 0 = ⟨h.Finds[k].Finder, a⟩ from rfl, cond_true]
        cases he : e.2 with
        | false =>
         simp only [cond_false, Option.bind_some, QhR h _ _ hm o1 (show [g.2, false, true].length ≤ 1048576 by simp), List.all_cons, List.all_nil, Bool.and_true, id_eq, Bool.false_and, Bool.and_false, QiY]
         cases decide (a = 0) <;> rfl
        | true =>
         cases ha : decide (a = 0) with
         | true => simp only [cond_true, cond_false, Bool.not_true, Option.bind_some, QhR h _ _ hm o1 (show [g.2, true, true].length ≤ 1048576 by simp), List.all_cons, List.all_nil, Bool.and_true, id_eq]
         | false => simp only [cond_true, cond_false, Bool.not_false, Option.bind_some, d2, QhR h _ _ hm o2 (show [g.2, true, d.2].length ≤ 1048576 by simp), List.all_cons, List.all_nil, Bool.and_true, Bool.true_and, id_eq]
      ·cases decide (a = 0) with
       | true => exact Qj1 _ _ _ hm o1
       | false => exact Qj1 _ _ _ hm o2
    ·simp only [decide_eq_false hf, Bool.not_false, cond_true]
     refine ⟨(h, false), rfl, ?_, hm⟩
     cases Qd2 h.Slots t with
     | false => rfl
     | true => simp only [Bool.not_true, cond_false, Qg hk, Qz hk, Qa, f2, Option.bind_some, decide_eq_false hf, Bool.not_false, cond_true]
end Go.Proofs.YtcdffihcfeajfaaGreat
