import Derived.Test.YtcdffihcfeajfaaGreatPyBids
import Derived.Test.YtcdffihcfeajfaaGreatPyFate
import Derived.Test.YtcdffihcfeajfaaGreatPyFee
namespace Go.Proofs.YtcdffihcfeajfaaGreat
open Go
set_option linter.unusedVariables false
set_option linter.unusedSimpArgs false
theorem Qs1 (x : Bid) : ∃ b, Qc8 x = some b ∧ ((Qf x.Who 1 999).bind fun r => (bif (!r) then some true else (Qf x.Cents 1 10000000).bind fun r2 => some (!r2))) = some (!b) ∧ (b = true → 1 ≤ x.Who ∧ 1 ≤ x.Cents ∧ x.Cents ≤ 10000000) := by
 unfold Qc8 Qb Qf
 simp only [Option.bind_some]
 cases h1 : (decide (1 ≤ x.Who) && decide (x.Who ≤ 999)) with
 | false => exact ⟨false, rfl, rfl, fun h => by cases h⟩
 | true =>
  cases h2 : (decide (1 ≤ x.Cents) && decide (x.Cents ≤ 10000000)) with
  | false => exact ⟨false, rfl, rfl, fun h => by cases h⟩
  | true =>
   simp only [Bool.and_eq_true, decide_eq_true_eq] at h1 h2
   exact ⟨true, rfl, rfl, fun _ => ⟨h1.1, h2.1, h2.2⟩⟩
theorem Qjp (l : List Bid) (i : Nat) (hi : i < l.length) (hl : l.length ≤ 1048576) :
  run (XJ l (i : Int)) 0 = some (bif (l.take i).any (fun y => decide (y.Who = l[i].Who)) then .ret false else .brk ()) := by
 have hlen : (l.take i).length = i := by simp; omega
 exact Qfw (l.take i) (fun y => decide (y.Who = l[i].Who)) (r := false) (step := XJ l (i : Int))
  (fun k hk => by
   rw [hlen] at hk
   have hkl : k < l.length := by omega
   have e : (l.take i)[k]'(by rw [hlen]; exact hk) = l[k] := by simp
   simp only [XJ, e, show decide ((k : Int) < (i : Int)) = true from decide_eq_true (by omega), Qg hi, Qz hi, Qg hkl, Qz hkl, QP (show (k : Int) < 9223372036854775807 by omega), cond_true, Qa]
   cases decide (l[k].Who = l[i].Who) <;> rfl)
  (by rw [hlen]; simp only [XJ, show decide ((i : Int) < (i : Int)) = false from decide_eq_false (by omega), cond_false])
theorem QjF (p : List Bid) (x : Bid) (hp : p.length ≤ 1048576) : QL p x = some (p.any (fun y => decide (y.Who = x.Who))) := by
 have hi := ZN p (fun y => decide (y.Who = x.Who)) (fun i => (i : Int)) (step := QD p x (ln p))
  (fun i hi => by
   simp only [QD, QbT, Qu hi, Qg hi, Qz hi, QP (show (i : Int) < 9223372036854775807 by omega), cond_true, Qa, Option.bind_some]
   cases decide (p[i].Who = x.Who) <;> rfl)
  (by simp only [QD, Qx (Nat.le_refl _), cond_false])
 unfold QL Vc
 rw [hi]
 cases hf : p.findIdx? (fun y => decide (y.Who = x.Who)) with
 | none =>
  have : p.any (fun y => decide (y.Who = x.Who)) = false := by
   rw [List.any_eq_false]
   intro y hy
   have := List.findIdx?_eq_none_iff.1 hf y hy
   simpa using this
  rw [this]; rfl
 | some i =>
  obtain ⟨hi', hp'⟩ := QcM hf
  rw [List.any_eq_true.2 ⟨_, List.getElem_mem hi', hp'⟩]
  simp only [Option.bind_some, evO, decide_eq_true (show (0 : Int) ≤ (i : Int) by omega)]
theorem Qv2 (l : List Bid) (hl : l.length ≤ 1048576) : ∃ b, QcP l = some b ∧ QcR l = some b ∧ (b = true → l.length ≤ 20 ∧ ∀ x ∈ l, 1 ≤ x.Who ∧ 1 ≤ x.Cents ∧ x.Cents ≤ 10000000) := by
 obtain ⟨b, h1, h2, h3⟩ := QcE (n := l.length) (r := false) (s1 := XG l) (s2 := Jn l l (ln l)) (fun i hi _ => by
   obtain ⟨b, q1, q2, _⟩ := Qs1 l[i]
   have hsl : slB 0 (i : Int) (ln l) = true := Qkj (by omega)
   simp only [XG, Jn, Qu hi, Qg hi, Qz hi, QP (show (i : Int) < 9223372036854775807 by omega), cond_true, Qa, q1, q2, Option.bind_some, Qjp l i hi hl, Qc1, hsl, QjF (l.take i) l[i] (by simp; omega)]
   cases b <;> cases (l.take i).any (fun y => decide (y.Who = l[i].Who)) <;> first | exact ⟨true, rfl, rfl⟩ | exact ⟨false, rfl, rfl⟩)
  (by simp only [XG, Qx (Nat.le_refl _), cond_false]) (by simp only [Jn, Qx (Nat.le_refl _), cond_false])
 refine ⟨b && decide ((l.length : Int) ≤ 20), (Zm _ h1).1, (Zm _ h2).2, fun hb => ?_⟩
 simp only [Bool.and_eq_true, decide_eq_true_eq] at hb
 refine ⟨by omega, fun x hx => ?_⟩
 obtain ⟨i, hi, rfl⟩ := List.getElem_of_mem hx
 have hstep := (h3 hb.1 i hi).1
 obtain ⟨c, q1, q2, q3⟩ := Qs1 l[i]
 simp only [XG, Qu hi, Qg hi, Qz hi, cond_true, Qa, q2, Option.bind_some] at hstep
 cases c with
 | true => exact q3 rfl
 | false => simp at hstep
theorem QkG (l : List Bid) : ∀ i, i ≤ l.length → ∀ x ∈ Xa l i, x ∈ l
 | 0, _, x, hx => by simp [Xa] at hx
 | i + 1, hi, x, hx => by
  unfold Xa at hx
  simp only [QaT, Int.toNat_natCast, List.mem_append, List.mem_singleton] at hx
  rcases hx with h | h | h
  ·exact QkG l i (by omega) x (List.mem_of_mem_take h)
  ·subst h; rw [Qz (show i < l.length by omega)]; exact List.getElem_mem _
  ·exact QkG l i (by omega) x (List.mem_of_mem_drop h)
theorem QBe (l : List Bid) (hl : l.length ≤ 1048576) : ∃ r, Qcu l = some r ∧ Qcz l = some r ∧ (r = (0, 0) ∨ (1 ≤ r.1 ∧ 1 ≤ r.2 ∧ r.2 ≤ 10000000)) := by
 obtain ⟨b, b1, b2, b3⟩ := Qv2 l hl
 unfold Qcu Qcz
 rw [b1, b2]
 simp only [Option.bind_some]
 by_cases h0 : ln l = 0
 ·rw [decide_eq_true h0]; exact ⟨(0, 0), rfl, rfl, .inl rfl⟩
 ·rw [decide_eq_false h0]
  have hpos : 1 ≤ l.length := by rw [Vg] at h0; omega
  cases b with
  | false => exact ⟨(0, 0), rfl, rfl, .inl rfl⟩
  | true =>
   obtain ⟨h20, hall⟩ := b3 rfl
   have hlen := Qdn l l.length
   have hmem := QkG l l.length (Nat.le_refl _)
   have hi0 : 0 < (Xa l l.length).length := by omega
   have e0 : inb (Xa l l.length) 0 = true := Qg hi0
   have g0 : gt (Xa l l.length) 0 = (Xa l l.length)[0] := Qz hi0
   have p0 := hall _ (hmem _ (List.getElem_mem hi0))
   simp only [cond_false, Bool.not_true, Option.bind_some, Qsb l hl, Qp2 l h20 hpos, e0, Qa, g0]
   by_cases h1 : l.length = 1
   ·rw [show decide (ln (Xa l l.length) = 1) = true from decide_eq_true (by rw [Vg, hlen, h1]; rfl)]
    exact ⟨_, rfl, rfl, .inr ⟨p0.1, by show (1 : Int) ≤ 1; omega, by show (1 : Int) ≤ 10000000; omega⟩⟩
   ·have hi1 : 1 < (Xa l l.length).length := by omega
    have e1 : inb (Xa l l.length) 1 = true := Qg hi1
    have g1 : gt (Xa l l.length) 1 = (Xa l l.length)[1] := Qz hi1
    have p1 := hall _ (hmem _ (List.getElem_mem hi1))
    rw [show decide (ln (Xa l l.length) = 1) = false from decide_eq_false (by rw [Vg, hlen]; omega), e1, g1]
    exact ⟨_, rfl, rfl, .inr ⟨p0.1, p1.2.1, p1.2.2⟩⟩
theorem Qqc (c : Int) (h0 : 0 ≤ c) (h1 : c ≤ 10000000) : ∃ a b, Zy c [1, 9] = some [a, b] ∧ ZJ c [1, 9] = some [a, b] := by
 have t1 : (c * 1).tdiv 10 = c / 10 := by rw [Int.mul_one, Int.tdiv_eq_ediv_of_nonneg h0]
 have t9 : (c * 9).tdiv 10 = c * 9 / 10 := Int.tdiv_eq_ediv_of_nonneg (by omega)
 have hb1 := Int.ediv_nonneg h0 (show (0 : Int) ≤ 10 by omega)
 have s4 : run (VT c [1, 9] []) (0, 0) = some (.brk 10) := by
  rw [Qs]; show run (VT c [1, 9] []) (1, 1) = _; rw [Qs]; show run (VT c [1, 9] []) (10, 2) = _; rw [Qs]; rfl
 have i6 : run (V2 c [1, 9] [] [1, 9] (ln ([1, 9] : List Int))) (0, 0) = some (.brk 10) := by
  rw [Qs]; show run (V2 c [1, 9] [] [1, 9] (ln ([1, 9] : List Int))) (1, 1) = _; rw [Qs]; show run (V2 c [1, 9] [] [1, 9] (ln ([1, 9] : List Int))) (10, 2) = _; rw [Qs]; rfl
 have w1 : w64 ((w64 (c * 1)).tdiv 10) = c / 10 := by rw [Vd (n := c * 1) (by omega) (by omega), t1, Vd] <;> omega
 have w9 : w64 ((w64 (c * 9)).tdiv 10) = c * 9 / 10 := by rw [Vd (n := c * 9) (by omega) (by omega), t9, Vd] <;> omega
 have s13 : run (Vt c [1, 9] 10) ([], c, 0) = some ([c / 10, c * 9 / 10], c - c / 10 - c * 9 / 10) := by
  rw [Qs]
  simp only [Vt, show decide ((0 : Int) < ln ([1, 9] : List Int)) = true from rfl, show inb ([1, 9] : List Int) 0 = true from rfl, show (!decide ((10 : Int) = 0)) = true from rfl, show gt ([1, 9] : List Int) 0 = 1 from rfl, List.nil_append, w1, cond_true, Qa, V9 (show ([] : List Int).length + 1 ≤ 2000000 by simp) (show 8 ≤ 1024 by omega), show inb ([c / 10] : List Int) 0 = true from rfl, show gt ([c / 10] : List Int) 0 = c / 10 from rfl, show w64 (0 + 1) = 1 from rfl, Option.bind_some]
  rw [Qs]
  simp only [Vt, show decide ((1 : Int) < ln ([1, 9] : List Int)) = true from rfl, show inb ([1, 9] : List Int) 1 = true from rfl, show (!decide ((10 : Int) = 0)) = true from rfl, show gt ([1, 9] : List Int) 1 = 9 from rfl, w9, cond_true, Qa, V9 (show ([c / 10] : List Int).length + 1 ≤ 2000000 by simp) (show 8 ≤ 1024 by omega), show ([c / 10] ++ [c * 9 / 10] : List Int) = [c / 10, c * 9 / 10] from rfl, show inb ([c / 10, c * 9 / 10] : List Int) 1 = true from rfl, show gt ([c / 10, c * 9 / 10] : List Int) 1 = c * 9 / 10 from rfl, show w64 (1 + 1) = 2 from rfl, Option.bind_some]
  rw [Qs]
  simp only [Vt, show decide ((2 : Int) < ln ([1, 9] : List Int)) = false from rfl, cond_false, Option.bind_some]
  rw [Vd (n := c - c / 10) (by omega) (by omega), Vd (by omega) (by omega)]
 have i16 : run (Vu c 10 [1, 9] (ln ([1, 9] : List Int))) ([], c, 0) = some ([c / 10, c * 9 / 10], c - c / 10 - c * 9 / 10) := by
  rw [Qs]
  simp only [Vu, show decide ((0 : Int) < ln ([1, 9] : List Int)) = true from rfl, show inb ([1, 9] : List Int) 0 = true from rfl, show (!decide ((10 : Int) = 0)) = true from rfl, show gt ([1, 9] : List Int) 0 = 1 from rfl, List.nil_append, w1, cond_true, Qa, V9 (show ([] : List Int).length + 1 ≤ 2000000 by simp) (show 8 ≤ 1024 by omega), show w64 (0 + 1) = 1 from rfl, Option.bind_some]
  rw [Qs]
  simp only [Vu, show decide ((1 : Int) < ln ([1, 9] : List Int)) = true from rfl, show inb ([1, 9] : List Int) 1 = true from rfl, show (!decide ((10 : Int) = 0)) = true from rfl, show gt ([1, 9] : List Int) 1 = 9 from rfl, w9, cond_true, Qa, V9 (show ([c / 10] : List Int).length + 1 ≤ 2000000 by simp) (show 8 ≤ 1024 by omega), show ([c / 10] ++ [c * 9 / 10] : List Int) = [c / 10, c * 9 / 10] from rfl, show w64 (1 + 1) = 2 from rfl, Option.bind_some]
  rw [Qs]
  simp only [Vu, show decide ((2 : Int) < ln ([1, 9] : List Int)) = false from rfl, cond_false, Option.bind_some]
  rw [Vd (n := c - c / 10) (by omega) (by omega), Vd (by omega) (by omega)]
 have hin1 : (decide (0 ≤ c) && decide (c ≤ 10000000)) = true := by rw [decide_eq_true h0, decide_eq_true h1]; rfl
 have hleft : c - c / 10 - c * 9 / 10 = 0 ∨ c - c / 10 - c * 9 / 10 = 1 := by omega
 refine ⟨c / 10 + (c - c / 10 - c * 9 / 10), c * 9 / 10, ?_, ?_⟩
 ·unfold Zy Qf
  simp only [s4, evO, Option.bind_some, hin1, Bool.not_true, cond_false, show (decide ((1 : Int) ≤ ln ([1, 9] : List Int)) && decide (ln ([1, 9] : List Int) ≤ 20)) = true from rfl, show decide ((10 : Int) = 0) = false from rfl, Bool.or_self, s13]
  rcases hleft with h | h
  ·rw [h, Qs]
   simp only [VP, show decide ((0 : Int) < 0) = false from rfl, cond_false, Option.bind_some, Int.add_zero]
  ·rw [h, Qs]
   simp only [VP, show decide ((0 : Int) < 1) = true from rfl, cond_true, show inb ([c / 10, c * 9 / 10] : List Int) 0 = true from rfl, Qa, show gt ([c / 10, c * 9 / 10] : List Int) 0 = c / 10 from rfl, Option.bind_some, show w64 (0 + 1) = 1 from rfl]
   rw [Qs]
   simp only [VP, show decide ((1 : Int) < 1) = false from rfl, cond_false, Option.bind_some]
   rw [Vd (by omega) (by omega)]; rfl
 ·unfold ZJ Qb
  simp only [i6, evO, Option.bind_some, hin1, Bool.not_true, cond_false, show (decide ((1 : Int) ≤ ln ([1, 9] : List Int)) && decide (ln ([1, 9] : List Int) ≤ 20)) = true from rfl, show decide ((10 : Int) = 0) = false from rfl, i16]
  rcases hleft with h | h
  ·rw [h, Qs]
   simp only [VO, show decide ((0 : Int) < 0) = false from rfl, cond_false, Option.bind_some, Int.add_zero]
  ·rw [h, Qs]
   simp only [VO, show decide ((0 : Int) < 1) = true from rfl, cond_true, show inb ([c / 10, c * 9 / 10] : List Int) 0 = true from rfl, Qa, show gt ([c / 10, c * 9 / 10] : List Int) 0 = c / 10 from rfl, show (!decide (ln (([c / 10, c * 9 / 10] : List Int).set (0 : Int).toNat (w64 (c / 10 + 1))) = 0)) = true from rfl, Option.bind_some, show w64 (1 - 1) = 0 from rfl]
   rw [Qs]
   simp only [VO, show decide ((0 : Int) < 0) = false from rfl, cond_false, Option.bind_some]
   rw [Vd (by omega) (by omega)]; rfl
theorem Qwv (p f : Int) (h0 : 0 ≤ p) (h1 : p ≤ 10000000) : ∃ s, QbD p f = some s ∧ Qbq p f = some s ∧ ((¬ (1 ≤ f ∧ f ≤ 999) ∧ s = [⟨0, p⟩]) ∨ (1 ≤ f ∧ ∃ a b, s = [⟨f, a⟩, ⟨0, b⟩])) := by
 obtain ⟨a, b, s1, s2⟩ := Qqc p h0 h1
 unfold QbD Qbq Qf Qb
 simp only [Option.bind_some, decide_eq_true h0, decide_eq_true h1, Bool.and_self, Bool.not_true, cond_false, s1, s2, show inb ([a, b] : List Int) 0 = true from rfl, show inb ([a, b] : List Int) 1 = true from rfl, Qa, show gt ([a, b] : List Int) 0 = a from rfl, show gt ([a, b] : List Int) 1 = b from rfl]
 by_cases hf : 1 ≤ f ∧ f ≤ 999
 ·rw [decide_eq_true hf.1, decide_eq_true hf.2]
  exact ⟨_, rfl, rfl, .inr ⟨hf.1, a, b, rfl⟩⟩
 ·rw [show (decide (1 ≤ f) && decide (f ≤ 999)) = false from by rw [Bool.eq_false_iff]; simpa using fun h => by omega]
  exact ⟨_, rfl, rfl, .inl ⟨hf, rfl⟩⟩
end Go.Proofs.YtcdffihcfeajfaaGreat
