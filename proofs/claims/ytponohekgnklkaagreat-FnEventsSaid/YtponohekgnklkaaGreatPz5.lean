import Derived.Test.YtponohekgnklkaaGreatFn
import Derived.Test.YtponohekgnklkaaGreatPl
import Derived.Test.YtponohekgnklkaaGreatFam
import Derived.Test.YtponohekgnklkaaGreatPz2
import Derived.Test.YtponohekgnklkaaGreatPz4
namespace Go.Proofs.YtponohekgnklkaaGreat
open Go
set_option linter.unusedVariables false
set_option linter.unusedSimpArgs false
theorem QnY (a : Int) (m : Nat) (hm : m < 9223372036854775808) : ∃ x, Qe3 .and .i64 a (m : Int) = x ∧ 0 ≤ x ∧ x ≤ (m : Int) := by
 refine ⟨_, rfl, ?_⟩
 have e : ((m : Int) % 2 ^ IntKind.i64.bits).toNat = m := by
  rw [show ((2 : Int) ^ IntKind.i64.bits) = 18446744073709551616 from rfl]; omega
 have h := @Nat.and_le_right (a % 2 ^ IntKind.i64.bits).toNat m
 unfold Qe3
 simp only [e, QwL]
 rw [Q9 (by omega) (by omega)]
 omega
def okC (c : l1Cur) : Prop := c.b.length ≤ 1048576 ∧ 0 ≤ c.i ∧ c.i ≤ c.b.length
theorem Qzr (l : List Int) (hl : l.length ≤ 1048576) : ∃ c, QcE l = some c ∧ okC c := by
 have key : ∀ (m k : Nat) (a : Int), k + m = l.length → ∃ r, run (J1 l) (a, (k : Int)) = some r := by
  intro m
  induction m with
  | zero =>
   intro k a hk
   have : k = l.length := by omega
   subst this
   exact ⟨a, by rw [Qi]; simp only [J1, QI (Nat.le_refl _), Bool.false_and, cond_false, Option.bind_some]⟩
  | succ m ih =>
   intro k a hk
   have hlt : k < l.length := by omega
   cases h4 : decide ((k : Int) < 4000) with
   | false => exact ⟨a, by rw [Qi]; simp only [J1, h4, Bool.and_false, cond_false, Option.bind_some]⟩
   | true =>
    obtain ⟨r, hr⟩ := ih (k + 1) (Qe3 .and .i64 (w64 (w64 (w64 (a * 137) + w64 (gt l (k : Int))) + 11)) 1073741823) (by omega)
    exact ⟨r, by rw [Qi]; simp only [J1, Qx hlt, h4, Bool.and_self, Qg hlt, cond_true, Qa, QL (show (k : Int) < 9223372036854775807 by omega), Option.bind_some]; exact hr⟩
 obtain ⟨r, hr⟩ := key l.length 0 (w64 (193017 + ln l)) (by omega)
 refine ⟨⟨l, 0, r⟩, ?_, hl, Int.le_refl _, by simp only; omega⟩
 unfold QcE
 rw [show run (J1 l) (w64 (193017 + ln l), 0) = some r from hr]; rfl
theorem Qo5 (a : Int) : 0 ≤ Qe3 .and .i64 a 255 ∧ Qe3 .and .i64 a 255 ≤ 255 := by
 obtain ⟨x, e, h0, h1⟩ := QnY a 255 (by omega)
 rw [show ((255 : Nat) : Int) = 255 from rfl] at e h1
 rw [e]; exact ⟨h0, h1⟩
theorem Qho (c : l1Cur) (h : okC c) : ∃ c' x, QaD c = some (c', x) ∧ okC c' ∧ 0 ≤ x ∧ x ≤ 255 := by
 obtain ⟨h1, h2, h3⟩ := h
 unfold QaD
 by_cases hi : c.i < ln c.b
 ·have hb : inb c.b c.i = true := by rw [QbQ]; rw [Q5] at hi; omega
  rw [Q5] at hi
  rw [decide_eq_true (show c.i < ln c.b from hi), hb]
  have e : w64 (c.i + 1) = c.i + 1 := Q9 (by omega) (by omega)
  refine ⟨_, _, rfl, ⟨h1, ?_, ?_⟩, (Qo5 _).1, (Qo5 _).2⟩
  ·show 0 ≤ w64 (c.i + 1)
   omega
  ·show w64 (c.i + 1) ≤ (c.b.length : Int)
   omega
 ·rw [decide_eq_false hi]
  exact ⟨_, _, rfl, ⟨h1, h2, h3⟩, (Qo5 _).1, (Qo5 _).2⟩
theorem Qpg {x n : Int} (hx : 0 ≤ x) (hn : 0 < n) : 0 ≤ x.tmod n ∧ x.tmod n < n := ⟨Int.tmod_nonneg _ hx, Int.tmod_lt_of_pos x hn⟩
theorem Qk (c : l1Cur) (n : Int) (h : okC c) : ∃ c' x, Qc c n = some (c', x) ∧ okC c' ∧ 0 ≤ x ∧ (0 < n → x < n) := by
 unfold Qc
 by_cases h0 : n ≤ 0
 ·rw [decide_eq_true h0]; exact ⟨c, 0, rfl, h, Int.le_refl _, fun hn => by omega⟩
 ·have hz : (!decide (n = 0)) = true := by simp; omega
  rw [decide_eq_false h0, hz]
  by_cases h1 : n ≤ 256
  ·rw [decide_eq_true h1]
   obtain ⟨c1, x1, e1, k1, l1, u1⟩ := Qho c h
   have := Qpg l1 (show 0 < n by omega)
   exact ⟨c1, x1.tmod n, by simp only [e1, cond_false, cond_true, Option.bind_some, Qa], k1, this.1, fun _ => this.2⟩
  ·rw [decide_eq_false h1]
   obtain ⟨c1, x1, e1, k1, l1, u1⟩ := Qho c h
   obtain ⟨c2, x2, e2, k2, l2, u2⟩ := Qho c1 k1
   obtain ⟨c3, x3, e3, k3, l3, u3⟩ := Qho c2 k2
   have e4 : w64 (w64 (w64 (x1 * 65536) + w64 (x2 * 256)) + x3) = x1 * 65536 + x2 * 256 + x3 := by
    rw [Q9 (n := x1 * 65536) (by omega) (by omega), Q9 (n := x2 * 256) (by omega) (by omega), Q9 (n := x1 * 65536 + x2 * 256) (by omega) (by omega), Q9 (by omega) (by omega)]
   have := Qpg (show 0 ≤ x1 * 65536 + x2 * 256 + x3 by omega) (show 0 < n by omega)
   exact ⟨c3, (x1 * 65536 + x2 * 256 + x3).tmod n, by simp only [e1, e2, e3, e4, cond_false, Option.bind_some, Qa], k3, this.1, fun _ => this.2⟩
theorem JS (c : l1Cur) (l : List Int) (h : okC c) (hl : 0 < l.length) : ∃ c' x, QU c l = some (c', x) ∧ okC c' ∧ x ∈ l := by
 obtain ⟨c1, x1, e1, k1, l1, u1⟩ := Qk c (ln l) h
 have hlt := u1 (by rw [Q5]; omega)
 rw [Q5] at hlt
 obtain ⟨k, rfl⟩ : ∃ k : Nat, x1 = (k : Int) := ⟨x1.toNat, by omega⟩
 have hi : k < l.length := by omega
 refine ⟨c1, l[k], ?_, k1, List.getElem_mem hi⟩
 unfold QU
 rw [e1]
 simp only [Option.bind_some, Qg hi, Qw hi, Qa]
end Go.Proofs.YtponohekgnklkaaGreat
namespace Go.Proofs.YtponohekgnklkaaGreat
open Go
set_option linter.unusedVariables false
set_option linter.unusedSimpArgs false
theorem Qn4 (c : l1Cur) (i : Int) (h : okC c) : ∃ c' x, QcO c i = some (c', x) ∧ okC c' ∧ x.Id = i := by
 obtain ⟨c1, x1, e1, k1, _⟩ := Qk c 8 h
 obtain ⟨c2, x2, e2, k2, _⟩ := Qk c1 8 k1
 obtain ⟨c3, x3, e3, k3, _⟩ := Qk c2 20 k2
 obtain ⟨c4, x4, e4, k4, _⟩ := Qk c3 500 k3
 exact ⟨c4, _, by unfold QcO; simp only [e1, e2, e3, e4, Option.bind_some]; rfl, k4, rfl⟩
theorem Qkf (c : l1Cur) (i : Int) (h : okC c) : ∃ c' x, Qbw c i = some (c', x) ∧ okC c' := by
 obtain ⟨c1, x1, e1, k1, _⟩ := Qn4 c i h
 obtain ⟨c2, x2, e2, k2, _⟩ := Qk c1 6 k1
 obtain ⟨c3, x3, e3, k3, _⟩ := Qk c2 80 k2
 obtain ⟨c4, x4, e4, k4, _⟩ := Qk c3 5 k3
 exact ⟨c4, _, by unfold Qbw; simp only [e1, e2, e3, e4, Option.bind_some]; rfl, k4⟩
end Go.Proofs.YtponohekgnklkaaGreat
namespace Go.Proofs.YtponohekgnklkaaGreat
open Go
set_option linter.unusedVariables false
set_option linter.unusedSimpArgs false
def Qsr (l : List Slot) : Prop := l.length ≤ 8 ∧ ∀ i (h : i < l.length), l[i].Id = (i : Int) + 1 ∧ 1 ≤ l[i].Size ∧ l[i].Size ≤ 50 ∧ l[i].Thing = 0
theorem QmB (c : l1Cur) (h : okC c) : ∃ c' l, Qbj c = some (c', l) ∧ okC c' ∧ Qsr l := by
 have key : ∀ (m : Nat) (c : l1Cur) (l : List Slot) (i : Int), okC c → i + (m : Int) = 8 → i = (l.length : Int) + 1 → Qsr l → ∃ c' l', run J6 (c, l, i) = some (c', l') ∧ okC c' ∧ Qsr l' := by
  intro m
  induction m with
  | zero =>
   intro c l i hc hi hl hg
   obtain ⟨c1, x1, e1, k1, l1, u1⟩ := Qk c 5 hc
   have u1 := u1 (by omega)
   refine ⟨c1, l, ?_, k1, hg⟩
   rw [Qi]
   simp only [J6, e1, Option.bind_some, show w64 (3 + x1) = 3 + x1 from Q9 (by omega) (by omega), decide_eq_false (show ¬ i ≤ 3 + x1 by omega), cond_false]
  | succ m ih =>
   intro c l i hc hi hl hg
   obtain ⟨c1, x1, e1, k1, l1, u1⟩ := Qk c 5 hc
   have u1 := u1 (by omega)
   obtain ⟨c2, x2, e2, k2, l2, u2⟩ := Qk c1 4 k1
   have u2 := u2 (by omega)
   rw [Qi]
   simp only [J6, e1, e2, Option.bind_some, show w64 (3 + x1) = 3 + x1 from Q9 (by omega) (by omega), Vy (show l.length + 1 ≤ 2000000 by omega) (show 24 ≤ 1024 by omega), Qa, show w64 (i + 1) = i + 1 from Q9 (by omega) (by omega), show w64 (5 * x2) = 5 * x2 from Q9 (by omega) (by omega), show w64 (10 + 5 * x2) = 10 + 5 * x2 from Q9 (by omega) (by omega)]
   by_cases hd : i ≤ 3 + x1
   ·rw [decide_eq_true hd]
    refine ih c2 _ (i + 1) k2 (by omega) (by simp; omega) ⟨by simp; omega, fun j hj => ?_⟩
    by_cases hjl : j < l.length
    ·rw [List.getElem_append_left hjl]; exact hg.2 j hjl
    ·have : j = l.length := by simp at hj; omega
     subst this
     simp only [List.getElem_append_right (Nat.le_refl _), Nat.sub_self, List.getElem_cons_zero]
     exact ⟨hl, by omega, by omega, trivial⟩
   ·rw [decide_eq_false hd]
    exact ⟨c1, l, rfl, k1, hg⟩
 obtain ⟨c', l', r1, r2, r3⟩ := key 7 c [] 1 h (by omega) (by simp) ⟨by simp, fun i h => by simp at h⟩
 exact ⟨c', l', by unfold Qbj; rw [r1]; rfl, r2, r3⟩
theorem QsO (l : List Slot) (hg : Qsr l) : Xk l = some true := by
 obtain ⟨hl, hg⟩ := hg
 have inner : ∀ i (hi : i < l.length), run (VJ l (i : Int)) 0 = some (.brk ()) := by
  intro i hi
  have key : ∀ (m j : Nat), j + m = i → run (VJ l (i : Int)) (j : Int) = some (.brk ()) := by
   intro m
   induction m with
   | zero => intro j hj; rw [Qi]; simp only [VJ, decide_eq_false (show ¬ (j : Int) < (i : Int) by omega), cond_false, Option.bind_some]
   | succ m ih =>
    intro j hj
    rw [Qi]
    simp only [VJ, decide_eq_true (show (j : Int) < (i : Int) by omega), Qg hi, Qw hi, (hg i hi).2.2.2, decide_true, Bool.not_true, cond_true, cond_false, Qa, Option.bind_some, QL (show (j : Int) < 9223372036854775807 by omega)]
    exact ih (j + 1) (by omega)
  exact key i 0 (by omega)
 have key : ∀ (m i : Nat), i + m = l.length → run (Vn l) (i : Int) = some (.brk ()) := by
  intro m
  induction m with
  | zero =>
   intro i hi
   have : i = l.length := by omega
   subst this
   rw [Qi]; simp only [Vn, QI (Nat.le_refl _), cond_false, Option.bind_some]
  | succ m ih =>
   intro i hi
   have hlt : i < l.length := by omega
   obtain ⟨g1, g2, g3, g4⟩ := hg i hlt
   rw [Qi]
   simp only [Vn, Qx hlt, Qg hlt, Qw hlt, Qe, cond_true, Qa, Option.bind_some, g1, g4, decide_eq_true (show (1 : Int) ≤ (i : Int) + 1 by omega), decide_eq_true (show (i : Int) + 1 ≤ 99 by omega), decide_eq_true g2, decide_eq_true g3, show decide ((0 : Int) ≤ 0) = true from rfl, show decide ((0 : Int) ≤ 999) = true from rfl, Bool.and_self, Bool.not_true, cond_false, inner i hlt, evO, QL (show (i : Int) < 9223372036854775807 by omega)]
   by_cases h0 : 0 < i
   ·obtain ⟨p1, _⟩ := hg (i - 1) (by omega)
    simp only [decide_eq_true (show (0 : Int) < (i : Int) by omega), Qae h0 (by omega), Qg (show i - 1 < l.length by omega), Qw (show i - 1 < l.length by omega), p1, decide_eq_false (show ¬ (i : Int) + 1 ≤ ((i - 1 : Nat) : Int) + 1 by omega), cond_true, cond_false, Qa, Option.bind_some]
    exact ih (i + 1) (by omega)
   ·simp only [decide_eq_false (show ¬ (0 : Int) < (i : Int) by omega), cond_false, Option.bind_some]
    exact ih (i + 1) (by omega)
 unfold Xk
 rw [show run (Vn l) 0 = some (.brk ()) from key l.length 0 (by omega)]
 simp only [Option.bind_some, evO]
 rw [decide_eq_true (show ln l ≤ 30 by rw [Q5]; omega)]
theorem QvK (l : List Slot) (hg : Qsr l) : Qbx l = some (l.length : Int) := by
 have key : ∀ (m i : Nat), i + m = l.length → run (XO l) ((i : Int), (i : Int)) = some (l.length : Int) := by
  intro m
  induction m with
  | zero =>
   intro i hi
   have : i = l.length := by omega
   subst this
   rw [Qi]; simp only [XO, QI (Nat.le_refl _), cond_false, Option.bind_some]
  | succ m ih =>
   intro i hi
   have hlt : i < l.length := by omega
   have := hg.1
   rw [Qi]
   simp only [XO, Qx hlt, Qg hlt, Qw hlt, (hg.2 i hlt).2.2.2, decide_true, cond_true, Qa, Option.bind_some, QL (show (i : Int) < 9223372036854775807 by omega)]
   exact ih (i + 1) (by omega)
 unfold Qbx
 rw [show run (XO l) (0, 0) = some (l.length : Int) from key l.length 0 (by omega)]; rfl
theorem Qk5 (no : Int) (l : List Slot) (h1 : 1 ≤ no) (h2 : no ≤ 9) (hg : Qsr l) : Q8 ⟨no, [], [], l, [], [], [], [], 0⟩ = some true := by
 have e1 : Xl [] = some true := by unfold Xl; rw [Qi]; rfl
 have e2 : Xq [] = some true := by unfold Xq; rw [Qi]; rfl
 have e3 : Q1 [] = some true := by unfold Q1; rw [Qi]; rfl
 have e4 : VO [] = some true := by unfold VO; rw [Qi]; rfl
 have e5 : Xu [] = some true := by unfold Xu; rw [Qi]; rfl
 have e6 : ∀ n, QaI [] n = some [] := fun n => by unfold QaI; rw [Qi]; rfl
 have e7 : Jm ⟨no, [], [], l, [], [], [], [], 0⟩ = some true := by unfold Jm; rw [Qi]; rfl
 have e8 : run (VD ⟨no, [], [], l, [], [], [], [], 0⟩) 0 = some (.brk ()) := by
  have key : ∀ (m i : Nat), i + m = l.length → run (VD ⟨no, [], [], l, [], [], [], [], 0⟩) (i : Int) = some (.brk ()) := by
   intro m
   induction m with
   | zero =>
    intro i hi
    have : i = l.length := by omega
    subst this
    rw [Qi]; simp only [VD, QI (Nat.le_refl _), cond_false, Option.bind_some]
   | succ m ih =>
    intro i hi
    have hlt : i < l.length := by omega
    have := hg.1
    rw [Qi]
    simp only [VD, Qx hlt, Qg hlt, Qw hlt, (hg.2 i hlt).2.2.2, decide_true, Bool.not_true, cond_true, cond_false, Qa, Option.bind_some, QL (show (i : Int) < 9223372036854775807 by omega)]
    exact ih (i + 1) (by omega)
  exact key l.length 0 (by omega)
 have e9 : Jn ⟨no, [], [], l, [], [], [], [], 0⟩ = some true := by
  unfold Jn
  simp only [decide_true, Bool.not_true, cond_false, e6, Option.bind_some]
  rw [Qi]
  simp only [XP, show decide ((0 : Int) < ln ([] : List Int)) = false from rfl, cond_false, Option.bind_some, evO]
  rw [Qi]
  simp only [XB, show decide ((0 : Int) < ln ([] : List Find)) = false from rfl, cond_false, Option.bind_some, evO]
  rw [e8]; rfl
 unfold Q8
 simp only [Qe, decide_eq_true h1, decide_eq_true h2, Bool.and_self, Bool.not_true, cond_false, e1, e2, e3, e4, e5, e7, e9, QsO l hg, Option.bind_some, show decide ((0 : Int) ≤ 0) = true from rfl, show decide ((0 : Int) ≤ 100000) = true from rfl, show decide ((0 : Int) < ln ([] : List Hand)) = false from rfl, show decide ((0 : Int) < ln ([] : List Entry)) = false from rfl, cond_true]
theorem Qot (no : Int) (l : List Slot) (h1 : 1 ≤ no) (h2 : no ≤ 9) (hg : Qsr l) : Qbk no l = some (⟨no, [], [], l, [], [], [], [], 0⟩, true) := by
 have hl := hg.1
 have hm : Qh ⟨no, [], [], l, [], [], [], [], 0⟩ := ⟨by simp, ⟨by simp, by simp⟩, by simp only; omega, by simp, by simp, by simp, by simp⟩
 have hv := Qk5 no l h1 h2 hg
 unfold Qbk
 rw [XL _ hm]
 simp only [Option.bind_some, hv, QvK l hg, Q5, decide_true, Bool.not_true, cond_false]
theorem Qry (c : l1Cur) (h : okC c) : ∃ c' a, Qcu c = some (c', a) ∧ okC c' ∧ Qh a ∧ Q8 a = some true := by
 obtain ⟨c1, x1, e1, k1, l1, u1⟩ := Qk c 3 h
 have u1 := u1 (by omega)
 obtain ⟨c2, l, e2, k2, hg⟩ := QmB c1 k1
 have hl := hg.1
 have ew : w64 (1 + x1) = 1 + x1 := Q9 (by omega) (by omega)
 exact ⟨c2, _, by unfold Qcu; simp only [e1, e2, ew, Qot (1 + x1) l (by omega) (by omega) hg, Option.bind_some], k2, ⟨by simp, ⟨by simp, by simp⟩, by simp only; omega, by simp, by simp, by simp, by simp⟩, Qk5 (1 + x1) l (by omega) (by omega) hg⟩
end Go.Proofs.YtponohekgnklkaaGreat
namespace Go.Proofs.YtponohekgnklkaaGreat
open Go
set_option linter.unusedVariables false
set_option linter.unusedSimpArgs false
theorem Qvh (c : l1Cur) (h : okC c) : ∃ c' l, QdK c = some (c', l) ∧ okC c' ∧ l.length ≤ 100 := by
 have key : ∀ (m : Nat) (c : l1Cur) (l : List Bid) (i : Int), okC c → i + (m : Int) = 7 → 0 ≤ i → l.length + m ≤ 100 → ∃ c' l', run Qaz (c, l, i) = some (c', l') ∧ okC c' ∧ l'.length ≤ 100 := by
  intro m
  induction m with
  | zero =>
   intro c l i hc hi h0 hl
   obtain ⟨c1, x1, e1, k1, l1, u1⟩ := Qk c 7 hc
   have u1 := u1 (by omega)
   refine ⟨c1, l, ?_, k1, by omega⟩
   rw [Qi]
   simp only [Qaz, e1, Option.bind_some, decide_eq_false (show ¬ i ≤ x1 by omega), cond_false]
  | succ m ih =>
   intro c l i hc hi h0 hl
   obtain ⟨c1, x1, e1, k1, l1, u1⟩ := Qk c 7 hc
   obtain ⟨c2, x2, e2, k2, _⟩ := Qk c1 12 k1
   obtain ⟨s, hs⟩ := Qod [7, i, w64 (1 + x2)] (by simp)
   have hsb : Qdk 7 i (w64 (1 + x2)) = some s := by unfold Qdk; rw [hs]; rfl
   rw [Qi]
   simp only [Qaz, e1, e2, hsb, Option.bind_some, Vy (show l.length + 1 ≤ 2000000 by omega) (show 24 ≤ 1024 by omega), Qa, show w64 (i + 1) = i + 1 from Q9 (by omega) (by omega)]
   by_cases hd : i ≤ x1
   ·rw [decide_eq_true hd]
    exact ih c2 _ (i + 1) k2 (by omega) (by omega) (by simp; omega)
   ·rw [decide_eq_false hd]
    exact ⟨c1, l, rfl, k1, by omega⟩
 obtain ⟨c1, l, r1, k1, n1⟩ := key 6 c [] 1 h (by omega) (by omega) (by simp)
 unfold QdK
 rw [r1]
 simp only [Option.bind_some]
 by_cases h0 : 0 < ln l
 ·rw [decide_eq_true h0]
  obtain ⟨c2, x2, e2, k2, l2, u2⟩ := Qk c1 (ln l) k1
  have u2 := u2 h0
  rw [Q5] at u2
  have hin : inb l x2 = true := by rw [QbQ]; omega
  obtain ⟨c3, x3, e3, k3, _⟩ := Qk c2 10 k2
  obtain ⟨c4, x4, e4, k4, _⟩ := JS c3 [0, 1, 999, 1000] k3 (by simp)
  obtain ⟨c5, x5, e5, k5, _⟩ := JS c3 [0, 10000000, 10000001] k3 (by simp)
  simp only [e2, e3, e4, e5, hin, Option.bind_some, cond_true, Qa]
  cases decide (x3 = 0) with
  | true => exact ⟨_, _, rfl, k4, by rw [List.length_set]; exact n1⟩
  | false =>
  cases decide (x3 = 1) with
  | true => exact ⟨_, _, rfl, k5, by rw [List.length_set]; exact n1⟩
  | false => exact ⟨_, _, rfl, k3, n1⟩
 ·rw [decide_eq_false h0]
  exact ⟨c1, l, rfl, k1, n1⟩
end Go.Proofs.YtponohekgnklkaaGreat
namespace Go.Proofs.YtponohekgnklkaaGreat
open Go
set_option linter.unusedVariables false
set_option linter.unusedSimpArgs false
theorem Qit (c : l1Cur) (i : Int) (h : okC c) : ∃ c' x, QaQ c i = some (c', x) ∧ okC c' ∧ JQ x ∧ x.Kind = 1 := by
 obtain ⟨c1, x1, e1, k1⟩ := Qkf c i h
 obtain ⟨c2, x2, e2, k2, _⟩ := Qk c1 12 k1
 obtain ⟨c3, x3, e3, k3, _⟩ := JS c2 [0, 900, 5000, 5001, 60000] k2 (by simp)
 obtain ⟨c4, x4, e4, k4, _⟩ := Qk c3 3 k3
 obtain ⟨c5, x5, e5, k5, _⟩ := Qk c4 3 k4
 exact ⟨c5, _, by unfold QaQ; simp only [e1, e2, e3, e4, e5, Option.bind_some]; rfl, k5, by simp [JQ], rfl⟩
theorem Qov (c : l1Cur) (h : okC c) : ∃ c' x, QcK c = some (c', x) ∧ okC c' ∧ JQ x := by
 obtain ⟨c1, x1, e1, k1, _⟩ := JS c [1, 2, 2, 3, 3, 3, 3, 4, 4, 5, 6, 7] h (by simp)
 obtain ⟨c2, x2, e2, k2, _⟩ := Qk c1 4 k1
 obtain ⟨c3, x3, e3, k3, _⟩ := Qk c2 5 k2
 obtain ⟨c4, x4, e4, k4, _⟩ := Qk c3 3 k3
 obtain ⟨c5, x5, e5, k5, _⟩ := Qk c4 6 k4
 obtain ⟨c6, x6, e6, k6, s6, _⟩ := Qit c5 (w64 (2 * (w64 (1 + x5)))) k5
 obtain ⟨c7, x7, e7, k7, _⟩ := Qk c4 3 k4
 obtain ⟨c8, x8, e8, k8, n8⟩ := Qvh c4 k4
 obtain ⟨c9, x9, e9, k9, _⟩ := JS c4 [1, 24, 2160, 4320] k4 (by simp)
 unfold QcK
 simp only [e1, e2, e3, e4, e5, e6, e7, e8, e9, Option.bind_some]
 cases decide (x1 = 1) with
 | true => exact ⟨_, _, rfl, k6, s6⟩
 | false =>
 cases decide (x1 = 3) with
 | true => exact ⟨_, _, rfl, k7, by simp [JQ]⟩
 | false =>
 cases decide (x1 = 5) with
 | true => exact ⟨_, _, rfl, k8, by simp [JQ]; omega⟩
 | false =>
 cases decide (x1 = 7) with
 | true => exact ⟨_, _, rfl, k9, by simp [JQ]⟩
 | false => exact ⟨_, _, rfl, k4, by simp [JQ]⟩
theorem QsT (c : l1Cur) (n : Int) (h : okC c) (hn : n ≤ 1000) : ∃ c' l, Qc8 c n = some (c', l) ∧ okC c' ∧ l.length ≤ 2000 ∧ (∀ x ∈ l, JQ x) ∧ ∃ a b t, l = a :: b :: t ∧ a.Kind = 1 ∧ b.Kind = 1 := by
 have key : ∀ (m : Nat) (c : l1Cur) (l : List Event), okC c → l.length + m ≤ 2000 → (∀ x ∈ l, JQ x) → ∃ c' l', run ZE (c, l, (m : Int)) = some (c', l') ∧ okC c' ∧ l'.length ≤ 2000 ∧ (∀ x ∈ l', JQ x) ∧ ∃ t, l' = l ++ t := by
  intro m
  induction m with
  | zero =>
   intro c l hc hl hx
   exact ⟨c, l, by rw [Qi]; simp only [ZE, show decide ((0 : Int) < ((0 : Nat) : Int)) = false from rfl, cond_false, Option.bind_some], hc, by omega, hx, [], by simp⟩
  | succ m ih =>
   intro c l hc hl hx
   obtain ⟨c1, x1, e1, k1, s1⟩ := Qov c hc
   obtain ⟨c', l', r1, r2, r3, r4, t, r5⟩ := ih c1 (l ++ [x1]) k1 (by simp; omega) (fun x hx' => by
    rcases List.mem_append.1 hx' with hx' | hx'
    ·exact hx x hx'
    ·rw [List.mem_singleton.1 hx']; exact s1)
   refine ⟨c', l', ?_, r2, r3, r4, x1 :: t, by rw [r5]; simp⟩
   rw [Qi]
   simp only [ZE, decide_eq_true (show (0 : Int) < ((m + 1 : Nat) : Int) by omega), e1, cond_true, Option.bind_some, Vy (show l.length + 1 ≤ 2000000 by omega) (show 144 ≤ 1024 by omega), Qa, show w64 (((m + 1 : Nat) : Int) - 1) = (m : Int) from by rw [Q9] <;> omega]
   exact r1
 obtain ⟨c1, x1, e1, k1, s1, q1⟩ := Qit c 2 h
 obtain ⟨c2, x2, e2, k2, s2, q2⟩ := Qit c1 4 k1
 obtain ⟨c3, x3, e3, k3, l3, u3⟩ := Qk c2 n k2
 have hx3 : x3 < 1000 := by
  by_cases h0 : 0 < n
  ·have := u3 h0; omega
  ·unfold Qc at e3
   rw [decide_eq_true (show n ≤ 0 by omega)] at e3
   injection e3 with e3; injection e3 with _ e3
   omega
 obtain ⟨k, rfl⟩ : ∃ k : Nat, x3 = (k : Int) := ⟨x3.toNat, by omega⟩
 obtain ⟨c', l', r1, r2, r3, r4, t, r5⟩ := key k c3 [x1, x2, (⟨7, ⟨⟨0, 0, 0, 0, 0⟩, 0, 0, 0⟩, [], 0, 0, 5, []⟩ : Event)] k3 (by simp; omega) (by
  intro x hx
  simp only [List.mem_cons, List.not_mem_nil, or_false] at hx
  rcases hx with rfl | rfl | rfl
  ·exact s1
  ·exact s2
  ·simp [JQ])
 exact ⟨c', l', by unfold Qc8; simp only [e1, e2, e3, Option.bind_some]; rw [r1]; rfl, r2, r3, r4, x1, x2, (⟨7, ⟨⟨0, 0, 0, 0, 0⟩, 0, 0, 0⟩, [], 0, 0, 5, []⟩ : Event) :: t, r5, q1, q2⟩
end Go.Proofs.YtponohekgnklkaaGreat
namespace Go.Proofs.YtponohekgnklkaaGreat
open Go
set_option linter.unusedVariables false
set_option linter.unusedSimpArgs false
theorem QsU {A : Type} (l : List A) (a b : Int) : (cut l a b).length ≤ l.length := by
 unfold cut; simp; omega
theorem Qta (l : List Mark) (m : Mark) (hl : l.length ≤ 1000) : ∃ l' b, QcS l m = some (l', b) ∧ l'.length ≤ l.length + 1 := by
 have key : ∀ (d k : Nat), k + d = l.length → ∃ r : Nat, run (JF l m) (k : Int) = some (r : Int) ∧ r ≤ l.length := by
  intro d
  induction d with
  | zero =>
   intro k hk
   have : k = l.length := by omega
   subst this
   exact ⟨l.length, by rw [Qi]; simp only [JF, QI (Nat.le_refl _), cond_false, Option.bind_some], Nat.le_refl _⟩
  | succ d ih =>
   intro k hk
   have hlt : k < l.length := by omega
   obtain ⟨r, r1, r2⟩ := ih (k + 1) (by omega)
   rw [Qi]
   simp only [JF, Qx hlt, Qg hlt, cond_true, Qa, Option.bind_some, QL (show (k : Int) < 9223372036854775807 by omega)]
   cases decide ((gt l (k : Int)).Question < m.Question) with
   | true => exact ⟨r, r1, r2⟩
   | false => exact ⟨k, rfl, by omega⟩
 obtain ⟨k, r1, hk⟩ := key l.length 0 (by omega)
 have s1 : slB (k : Int) (ln l) (ln l) = true := by unfold slB; simp [Q5]; omega
 have s2 : slB 0 (k : Int) (ln l) = true := by unfold slB; simp [Q5]; omega
 have c1 := QsU l 0 (k : Int)
 have c2 := QsU l (k : Int) (ln l)
 have c0 : (cut l 0 (k : Int)).length ≤ k := by unfold cut; simp; omega
 have c3 : (cut l (k : Int) (ln l)).length ≤ l.length - k := by unfold cut; simp [Q5]
 have c4 := QsU (cut l (k : Int) (ln l)) 1 (ln (cut l (k : Int) (ln l)))
 have rms : ∀ {n : Nat}, n ≤ 2000000 → rm n 16 = true := fun h => Vy h (by omega)
 unfold QcS
 rw [show run (JF l m) 0 = some (k : Int) from r1]
 simp only [Option.bind_some, s1, s2, Qa, rms (show 0 + (cut l 0 (k : Int)).length ≤ 2000000 by omega), rms (show (cut l 0 (k : Int)).length + 1 ≤ 2000000 by omega), rms (show (cut l 0 (k : Int)).length + 1 + (cut (cut l (k : Int) (ln l)) 1 (ln (cut l (k : Int) (ln l)))).length ≤ 2000000 by omega),
  rms (show (cut l 0 (k : Int)).length + 1 + (cut l (k : Int) (ln l)).length ≤ 2000000 by omega), rms (show 0 + l.length ≤ 2000000 by omega)]
 obtain ⟨b1, a1, _⟩ := Qfu (((cut l 0 (k : Int)) ++ [m]) ++ (cut (cut l (k : Int) (ln l)) 1 (ln (cut l (k : Int) (ln l))))) (by simp; omega)
 obtain ⟨b2, a2, _⟩ := Qfu (((cut l 0 (k : Int)) ++ [m]) ++ (cut l (k : Int) (ln l))) (by simp; omega)
 have off : ∃ l' b, ((Jf (((cut l 0 (k : Int)) ++ [m]) ++ (cut l (k : Int) (ln l)))).bind fun r => (bif (!r) then some (l, false) else some (((cut l 0 (k : Int)) ++ [m]) ++ (cut l (k : Int) (ln l)), true)) : Option (List Mark × Bool)) = some (l', b) ∧ l'.length ≤ l.length + 1 := by
  rw [a2]
  cases b2 with
  | false => exact ⟨l, false, rfl, by omega⟩
  | true => exact ⟨_, true, rfl, by simp; omega⟩
 by_cases h0 : 0 < (cut l (k : Int) (ln l)).length
 ·rw [decide_eq_true (show 0 < ln (cut l (k : Int) (ln l)) by rw [Q5]; omega)]
  have hi : inb (cut l (k : Int) (ln l)) 0 = true := by rw [QbQ]; omega
  have s3 : slB 1 (ln (cut l (k : Int) (ln l))) (ln (cut l (k : Int) (ln l))) = true := by
   have hlen : (1 : Int) ≤ ln (cut l (k : Int) (ln l)) := by rw [Q5]; omega
   unfold slB; rw [decide_eq_true hlen]; simp
  simp only [hi, cond_true, Qa, Option.bind_some]
  cases decide ((gt (cut l (k : Int) (ln l)) 0).Question = m.Question) with
  | true =>
   simp only [cond_true, s3, Qa, a1, Option.bind_some]
   cases b1 with
   | false => exact ⟨l, false, rfl, by omega⟩
   | true => exact ⟨_, true, rfl, by simp; omega⟩
  | false => exact off
 ·rw [decide_eq_false (show ¬ 0 < ln (cut l (k : Int) (ln l)) by rw [Q5]; omega)]
  exact off
theorem Qmq (c : l1Cur) (h : okC c) : ∃ c' l, QbP c = some (c', l) ∧ okC c' ∧ l.length ≤ 100 := by
 have key : ∀ (m : Nat) (c : l1Cur) (l : List Mark), okC c → l.length + m ≤ 100 → ∃ c' l', run Zz (c, l, (m : Int)) = some (c', l') ∧ okC c' ∧ l'.length ≤ 100 := by
  intro m
  induction m with
  | zero =>
   intro c l hc hl
   exact ⟨c, l, by rw [Qi]; simp only [Zz, show decide ((0 : Int) < ((0 : Nat) : Int)) = false from rfl, cond_false, Option.bind_some], hc, by omega⟩
  | succ m ih =>
   intro c l hc hl
   obtain ⟨c1, x1, e1, k1, _⟩ := Qk c 8 hc
   obtain ⟨c2, x2, e2, k2, _⟩ := Qk c1 9 k1
   obtain ⟨l3, b3, e3, n3⟩ := Qta l (⟨w64 (1 + x1), x2⟩ : Mark) (by omega)
   obtain ⟨c', l', r1, r2⟩ := ih c2 l3 k2 (by omega)
   refine ⟨c', l', ?_, r2⟩
   rw [Qi]
   simp only [Zz, decide_eq_true (show (0 : Int) < ((m + 1 : Nat) : Int) by omega), e1, e2, e3, cond_true, Option.bind_some, show w64 (((m + 1 : Nat) : Int) - 1) = (m : Int) from by rw [Q9] <;> omega]
   exact r1
 obtain ⟨c1, x1, e1, k1, l1, u1⟩ := Qk c 6 h
 have u1 := u1 (by omega)
 obtain ⟨k, rfl⟩ : ∃ k : Nat, x1 = (k : Int) := ⟨x1.toNat, by omega⟩
 obtain ⟨c2, l, r2, k2, n2⟩ := key k c1 [] k1 (by simp; omega)
 exact ⟨c2, l, by unfold QbP; simp only [e1, Option.bind_some]; rw [r2]; rfl, k2, n2⟩
theorem Qv8 (c : l1Cur) (a : Int) (h : okC c) : ∃ c' x, QdI c a = some (c', x) ∧ okC c' ∧ x.Marks.length ≤ 100 := by
 obtain ⟨c1, l, e1, k1, n1⟩ := Qmq c h
 obtain ⟨c2, x2, e2, k2, _⟩ := Qk c1 9 k1
 obtain ⟨c3, x3, e3, k3, _⟩ := Qk c2 99 k2
 obtain ⟨c4, x4, e4, k4, _⟩ := Qk c1 99 k1
 unfold QdI
 simp only [e1, e2, e3, e4, Option.bind_some]
 cases decide (ln l = 0) with
 | true => exact ⟨_, _, rfl, k3, by simp⟩
 | false => exact ⟨_, _, rfl, k4, n1⟩
theorem Qvz (c : l1Cur) (h : okC c) : ∃ c' l, QdG c = some (c', l) ∧ okC c' ∧ l.length ≤ 100 := by
 obtain ⟨c1, l, e1, k1, n1⟩ := Qmq c h
 unfold QdG
 rw [e1]
 simp only [Option.bind_some]
 by_cases h0 : l.length = 0
 ·rw [decide_eq_true (show ln l = 0 by rw [Q5]; omega)]; exact ⟨c1, l, rfl, k1, n1⟩
 ·rw [decide_eq_false (show ¬ ln l = 0 by rw [Q5]; omega)]
  obtain ⟨c2, x2, e2, k2, l2, u2⟩ := Qk c1 (ln l) k1
  have u2 := u2 (by rw [Q5]; omega)
  rw [Q5] at u2
  have hin : inb l x2 = true := by rw [QbQ]; omega
  obtain ⟨c3, x3, e3, k3, _⟩ := Qk c2 9 k2
  obtain ⟨c4, x4, e4, k4, _⟩ := JS c3 [0, 20, 21] k3 (by simp)
  obtain ⟨c5, x5, e5, k5, _⟩ := JS c3 [(-1), 99, 100] k3 (by simp)
  simp only [e2, e3, e4, e5, hin, cond_false, Option.bind_some, Qa]
  cases decide (x3 = 0) with
  | true => exact ⟨_, _, rfl, k4, by rw [List.length_set]; exact n1⟩
  | false =>
  cases decide (x3 = 1) with
  | true => exact ⟨_, _, rfl, k5, by rw [List.length_set]; exact n1⟩
  | false => exact ⟨_, _, rfl, k3, n1⟩
theorem Qxf (h : House) (c : Int) (hl : h.Trials.length ≤ 1048576) : ∃ r, Qdi h c = some r := by
 have hs := XQ h.Trials (fun x => decide (x.Claim = c)) (fun i => (h.Trials.getD i default, true)) (step := ZH c h (⟨0, 0, 0, 0⟩ : Trial))
  (fun i hi => by
   simp only [ZH, Qx hi, Qg hi, Qw hi, QL (show (i : Int) < 9223372036854775807 by omega), cond_true, Qa, List.getD_eq_getElem?_getD, List.getElem?_eq_getElem hi, Option.getD_some]
   cases decide (h.Trials[i].Claim = c) <;> rfl)
  (by simp only [ZH, QI (Nat.le_refl _), cond_false])
 unfold Qdi
 rw [hs]
 split <;> exact ⟨_, rfl⟩
theorem QsF (a : House) (c : Int) (hm : Qh a) : ∃ r, QbN a c = some r := by
 obtain ⟨m1, ⟨m2, m2'⟩, m3, m4, m5, m6, m7⟩ := hm
 obtain ⟨r2, e2⟩ := Qxf a c m5
 unfold QbN
 rw [(Qb4 a.Claims c m4).1, e2]
 simp only [Option.bind_some]
 by_cases hb : (decide (Zp a.Claims c < 0) || !r2.2) = true
 ·rw [hb]; exact ⟨_, rfl⟩
 ·have hb' : (decide (Zp a.Claims c < 0) || !r2.2) = false := by simpa using hb
  rw [hb']
  simp only [Bool.or_eq_false_iff, decide_eq_false_iff_not] at hb'
  have hin : inb a.Claims (Zp a.Claims c) = true := by
   rcases Qeq a.Claims c with h | ⟨k, hk, h, _⟩
   ·omega
   ·rw [h]; exact Qg hk
  obtain ⟨m, e3, _, n3⟩ := QlJ a.Secrets (gt a.Claims (Zp a.Claims c)).Thing m2 m2'
  obtain ⟨q, e4, _⟩ := Qjm m r2.1 n3
  obtain ⟨v, e5, _⟩ := Qqf m q n3
  exact ⟨v, by simp only [hin, e3, e4, e5, cond_false, Qa, Option.bind_some]⟩
theorem QqU (c : l1Cur) (a : House) (i : Int) (h : okC c) (hm : Qh a) : ∃ c' x, Qaj c a i = some (c', x) ∧ okC c' ∧ Qh x := by
 obtain ⟨c1, x1, e1, k1⟩ := Qkf c i h
 obtain ⟨c2, x2, e2, k2, _⟩ := Qk c1 15 k1
 obtain ⟨x3, e3⟩ : ∃ x, Qc6 x1.At a.Now = some x := by unfold Qc6; cases decide (a.Now < x1.At) <;> exact ⟨_, rfl⟩
 obtain ⟨c4, x4, e4, k4, _⟩ := JS c2 [0, 900, 5000, 5001, 60000] k2 (by simp)
 obtain ⟨c5, x5, e5, k5, n5⟩ := Qv8 c4 i k4
 obtain ⟨c6, x6, e6, k6, _⟩ := Qk c5 50 k5
 obtain ⟨r, e7, _, s7⟩ := QpZ a (⟨⟨x1.Thing.Id, x1.Thing.Kind, x1.Thing.Colour, w64 (1 + x2), x4⟩, x1.Place, x3, x1.Finder⟩ : Find) x5.Marks x6 hm (by omega)
 exact ⟨c6, r.1, by unfold Qaj; simp only [e1, e2, e3, e4, e5, e6, e7, Option.bind_some], k6, s7⟩
theorem QoF (c : l1Cur) (a : Int) (h : okC c) : ∃ c' b, QbD c a = some (c', b) ∧ okC c' := by
 obtain ⟨c1, x1, e1, k1, _⟩ := Qk c a h
 exact ⟨c1, _, by unfold QbD; rw [e1]; rfl, k1⟩
theorem QzU (c : l1Cur) (h : okC c) : ∀ (m : Nat) (c : l1Cur) (a : House) (i : Int), okC c → Qh a → i + (m : Int) = 4 → 0 ≤ i → ∃ c' x, run ZK (c, a, i) = some (c', x) ∧ okC c' ∧ Qh x := by
 intro m
 induction m with
 | zero =>
  intro c a i hc ha hi h0
  obtain ⟨c1, x1, e1, k1, l1, u1⟩ := Qk c 3 hc
  have u1 := u1 (by omega)
  refine ⟨c1, a, ?_, k1, ha⟩
  rw [Qi]
  simp only [ZK, e1, Option.bind_some, show w64 (1 + x1) = 1 + x1 from Q9 (by omega) (by omega), decide_eq_false (show ¬ i ≤ 1 + x1 by omega), cond_false]
 | succ m ih =>
  intro c a i hc ha hi h0
  obtain ⟨c1, x1, e1, k1, l1, u1⟩ := Qk c 3 hc
  obtain ⟨c2, x2, e2, k2, s2⟩ := QqU c1 a (w64 (2 * i)) k1 ha
  rw [Qi]
  simp only [ZK, e1, e2, Option.bind_some, show w64 (i + 1) = i + 1 from Q9 (by omega) (by omega)]
  cases decide (i ≤ w64 (1 + x1)) with
  | true => exact ih c2 x2 (i + 1) k2 s2 (by omega) (by omega)
  | false => exact ⟨c1, a, rfl, k1, ha⟩
theorem Qza : ∀ (m : Nat) (c : l1Cur) (a : House), m ≤ 1000 → okC c → Qh a → ∃ c' x, run ZB (c, a, (m : Int)) = some (c', x) ∧ okC c' ∧ Qh x := by
 intro m
 induction m with
 | zero =>
  intro c a hm hc ha
  exact ⟨c, a, by rw [Qi]; simp only [ZB, show decide ((0 : Int) < ((0 : Nat) : Int)) = false from rfl, cond_false, Option.bind_some], hc, ha⟩
 | succ m ih =>
  intro c a hm hc ha
  obtain ⟨c1, x1, e1, k1, _⟩ := Qk c 5 hc
  obtain ⟨c2, x2, e2, k2, _⟩ := Qk c1 8 k1
  obtain ⟨c3, x3, e3, k3, _⟩ := Qk c2 6 k2
  obtain ⟨c4, x4, e4, k4, _⟩ := Qk c3 3 k3
  obtain ⟨r5, e5, _, s5⟩ := QoC a (w64 (1 + x1)) (w64 (1 + x3)) (w64 (2 * (w64 (1 + x4)))) ha
  obtain ⟨c6, x6, e6, k6, _⟩ := JS c2 [1, 24, 100, 2160, 4320] k2 (by simp)
  obtain ⟨r7, e7, _, s7⟩ := Qqz a x6 ha
  obtain ⟨c8, x8, e8, k8, _⟩ := Qk c2 3 k2
  obtain ⟨r9, e9, _, s9⟩ := Qoj a (w64 (2 * (w64 (1 + x8)))) ha
  obtain ⟨x10, e10⟩ := QsF a (w64 (1 + x1)) ha
  obtain ⟨c11, x11, e11, k11⟩ := QoF c2 5 k2
  obtain ⟨c12, x12, e12, k12, _⟩ := Qk c11 9 k11
  obtain ⟨r13, e13, _, s13⟩ := Qh7 a (w64 (1 + x1)) x12 ha
  obtain ⟨r14, e14, _, s14⟩ := Qh7 a (w64 (1 + x1)) x10 ha
  have ew : w64 (((m + 1 : Nat) : Int) - 1) = (m : Int) := by rw [Q9] <;> omega
  rw [Qi]
  simp only [ZB, decide_eq_true (show (0 : Int) < ((m + 1 : Nat) : Int) by omega), e1, e2, e3, e4, e5, e6, e7, e8, e9, e10, e11, e12, e13, e14, ew, cond_true, Option.bind_some]
  cases decide (x2 = 0) with
  | true => exact ih _ _ (by omega) k4 s5
  | false =>
  cases decide (x2 = 1) with
  | true => exact ih _ _ (by omega) k4 s5
  | false =>
  cases decide (x2 = 2) with
  | true => exact ih _ _ (by omega) k6 s7
  | false =>
  cases decide (x2 = 3) with
  | true => exact ih _ _ (by omega) k8 s9
  | false =>
  cases x11 with
  | true => exact ih _ _ (by omega) k12 s13
  | false => exact ih _ _ (by omega) k11 s14
theorem Qs3 (c : l1Cur) (h : okC c) : ∃ c' a, Qdd c = some (c', a) ∧ okC c' ∧ Qh a := by
 obtain ⟨c1, x1, e1, k1, l1, u1⟩ := Qk c 3 h
 have u1 := u1 (by omega)
 obtain ⟨c2, l, e2, k2, hg⟩ := QmB c1 k1
 have hl := hg.1
 have ew : w64 (1 + x1) = 1 + x1 := Q9 (by omega) (by omega)
 obtain ⟨c3, x3, e3, k3, s3⟩ := QzU c2 k2 3 c2 ⟨1 + x1, [], [], l, [], [], [], [], 20⟩ 1 k2 ⟨by simp, ⟨by simp, by simp⟩, by simp only; omega, by simp, by simp, by simp, by simp⟩ (by omega) (by omega)
 obtain ⟨c4, x4, e4, k4, l4, u4⟩ := Qk c3 9 k3
 have u4 := u4 (by omega)
 obtain ⟨k, rfl⟩ : ∃ k : Nat, x4 = (k : Int) := ⟨x4.toNat, by omega⟩
 obtain ⟨c5, x5, e5, k5, s5⟩ := Qza k c4 x3 (by omega) k4 s3
 refine ⟨c5, x5, ?_, k5, s5⟩
 unfold Qdd
 simp only [e1, e2, ew, Qot (1 + x1) l (by omega) (by omega) hg, e3, e4, e5, Option.bind_some]
end Go.Proofs.YtponohekgnklkaaGreat
namespace Go.Proofs.YtponohekgnklkaaGreat
open Go
set_option linter.unusedVariables false
set_option linter.unusedSimpArgs false
theorem QrR (c : l1Cur) (h : okC c) : ∃ c' x, Qdp c = some (c', x) ∧ okC c' ∧ i64 x := by
 obtain ⟨c1, x1, e1, k1, m1⟩ := JS c [(-1), 0, 8, 50, 51, 1000, 9223372036854775807, (-9223372036854775808)] h (by simp)
 refine ⟨c1, x1, by unfold Qdp; rw [e1]; rfl, k1, ?_⟩
 simp only [List.mem_cons, List.not_mem_nil, or_false] at m1
 unfold i64; omega
theorem Qv7 (c : l1Cur) (h : okC c) : ∃ c' l, QdR c = some (c', l) ∧ okC c' ∧ l.length ≤ 100 := by
 have key : ∀ (m : Nat) (c : l1Cur) (l : List Find) (i : Int), okC c → i + (m : Int) = 8 → 0 ≤ i → l.length + m ≤ 100 → ∃ c' l', run Qaq (c, l, i) = some (c', l') ∧ okC c' ∧ l'.length ≤ 100 := by
  intro m
  induction m with
  | zero =>
   intro c l i hc hi h0 hl
   obtain ⟨c1, x1, e1, k1, l1, u1⟩ := Qk c 8 hc
   have u1 := u1 (by omega)
   refine ⟨c1, l, ?_, k1, by omega⟩
   rw [Qi]
   simp only [Qaq, e1, Option.bind_some, decide_eq_false (show ¬ i ≤ x1 by omega), cond_false]
  | succ m ih =>
   intro c l i hc hi h0 hl
   obtain ⟨c1, x1, e1, k1, l1, u1⟩ := Qk c 8 hc
   obtain ⟨c2, x2, e2, k2⟩ := Qkf c1 (w64 (2 * i)) k1
   rw [Qi]
   simp only [Qaq, e1, e2, Option.bind_some, Vy (show l.length + 1 ≤ 2000000 by omega) (show 64 ≤ 1024 by omega), Qa, show w64 (i + 1) = i + 1 from Q9 (by omega) (by omega)]
   by_cases hd : i ≤ x1
   ·rw [decide_eq_true hd]
    exact ih c2 _ (i + 1) k2 (by omega) (by omega) (by simp; omega)
   ·rw [decide_eq_false hd]
    exact ⟨c1, l, rfl, k1, by omega⟩
 obtain ⟨c', l', r1, r2, r3⟩ := key 7 c [] 1 h (by omega) (by omega) (by simp)
 exact ⟨c', l', by unfold QdR; rw [r1]; rfl, r2, r3⟩
theorem QwT (c : l1Cur) (h : okC c) : ∃ c' x, Qew c = some (c', x) ∧ okC c' := by
 obtain ⟨c1, x1, e1, k1, _⟩ := Qk c 40 h
 obtain ⟨c2, x2, e2, k2, _⟩ := Qn4 c1 (w64 (1 + x1)) k1
 obtain ⟨c3, x3, e3, k3, _⟩ := Qk c2 14 k2
 obtain ⟨c4, x4, e4, k4, _⟩ := JS c3 [0, 999, 1000] k3 (by simp)
 obtain ⟨c5, x5, e5, k5, _⟩ := JS c3 [0, 8, 9] k3 (by simp)
 obtain ⟨c6, x6, e6, k6, _⟩ := JS c3 [(-1), 7, 8] k3 (by simp)
 obtain ⟨c7, x7, e7, k7, _⟩ := QrR c3 k3
 obtain ⟨c8, x8, e8, k8, _⟩ := JS c3 [(-1), 10000000, 10000001] k3 (by simp)
 unfold Qew
 simp only [e1, e2, e3, e4, e5, e6, e7, e8, Option.bind_some]
 cases decide (x3 = 0) with
 | true => exact ⟨_, _, rfl, k4⟩
 | false =>
 cases decide (x3 = 1) with
 | true => exact ⟨_, _, rfl, k5⟩
 | false =>
 cases decide (x3 = 2) with
 | true => exact ⟨_, _, rfl, k6⟩
 | false =>
 cases decide (x3 = 3) with
 | true => exact ⟨_, _, rfl, k7⟩
 | false =>
 cases decide (x3 = 4) with
 | true => exact ⟨_, _, rfl, k8⟩
 | false => exact ⟨_, _, rfl, k3⟩
theorem Qw6 (c : l1Cur) (h : okC c) : ∃ c' l, Qeb c = some (c', l) ∧ okC c' ∧ l.length ≤ 100 := by
 obtain ⟨c1, l, e1, k1, n1⟩ := Qv7 c h
 unfold Qeb
 rw [e1]
 simp only [Option.bind_some]
 by_cases h0 : l.length = 0
 ·rw [decide_eq_true (show ln l = 0 by rw [Q5]; omega)]; exact ⟨c1, l, rfl, k1, n1⟩
 ·rw [decide_eq_false (show ¬ ln l = 0 by rw [Q5]; omega)]
  obtain ⟨c2, x2, e2, k2, l2, u2⟩ := Qk c1 (ln l) k1
  obtain ⟨c3, x3, e3, k3, _⟩ := Qk c2 12 k2
  have u2 := u2 (by rw [Q5]; omega)
  rw [Q5] at u2
  have hin : inb l x2 = true := by rw [QbQ]; omega
  obtain ⟨c4, x4, e4, k4⟩ := QwT c3 k3
  obtain ⟨c5, x5, e5, k5, _⟩ := JS c3 [0, 30, 31] k3 (by simp)
  obtain ⟨c6, x6, e6, k6, _⟩ := QrR c3 k3
  obtain ⟨c7, x7, e7, k7, _⟩ := JS c3 [(-1), 999, 1000] k3 (by simp)
  have ls : ∀ (n : Nat) (x : Find), (l.set n x).length ≤ 100 := fun n x => by rw [List.length_set]; exact n1
  simp only [e2, e3, e4, e5, e6, e7, hin, cond_false, Option.bind_some, Qa]
  cases decide (x3 = 0) with
  | true => exact ⟨_, _, rfl, k4, ls _ _⟩
  | false =>
  cases decide (x3 = 1) with
  | true => exact ⟨_, _, rfl, k5, ls _ _⟩
  | false =>
  cases decide (x3 = 2) with
  | true => exact ⟨_, _, rfl, k6, ls _ _⟩
  | false =>
  cases decide (x3 = 3) with
  | true => exact ⟨_, _, rfl, k7, ls _ _⟩
  | false => exact ⟨_, _, rfl, k3, n1⟩
end Go.Proofs.YtponohekgnklkaaGreat
namespace Go.Proofs.YtponohekgnklkaaGreat
open Go
set_option linter.unusedVariables false
set_option linter.unusedSimpArgs false
noncomputable def Qf4 : List Event → House → Option House
 | [], h => some h
 | e :: l, h => (Xr h e).bind fun r => Qf4 l r.1
theorem Qn7 : ∀ (a b : List Event) (h : House), Qf4 (a ++ b) h = (Qf4 a h).bind (Qf4 b)
 | [], b, h => rfl
 | e :: a, b, h => by
  simp only [List.cons_append, Qf4]
  cases Xr h e with
  | none => rfl
  | some r => exact Qn7 a b r.1
theorem Qk3 : ∀ (l : List Event) (h r : House), Qh h → Q8 h = some true → (∀ e ∈ l, JQ e) → Qf4 l h = some r → Q8 r = some true
 | [], h, r, _, hv, _, hr => by injection hr with hr; subst hr; exact hv
 | e :: l, h, r, hm, hv, he, hr => by
  simp only [Qf4] at hr
  obtain ⟨y, y1, _, y3⟩ := Qh6 h e hm (he e (by simp))
  rw [y1] at hr
  exact Qk3 l y.1 r y3 (QpV h e hm hv y1) (fun x hx => he x (by simp [hx])) hr
theorem Qpi (h : House) (l : List Event) (hm : Qh h) (hl : l.length ≤ 1048576) (he : ∀ e ∈ l, JQ e) : ∃ r, Xo h l = some r ∧ Qf4 l h = some r ∧ Qh r := by
 have key : ∀ (m i : Nat) (x : House), i + m = l.length → Qh x → ∃ r, run (Xf l (ln l)) (x, (i : Int)) = some r ∧ Qf4 (l.drop i) x = some r ∧ Qh r := by
  intro m
  induction m with
  | zero =>
   intro i x hi hx
   have : i = l.length := by omega
   subst this
   exact ⟨x, by rw [Qi]; simp only [Xf, QI (Nat.le_refl _), cond_false, Option.bind_some], by rw [List.drop_length]; rfl, hx⟩
  | succ m ih =>
   intro i x hi hx
   have hlt : i < l.length := by omega
   obtain ⟨y, y1, y2, y3⟩ := Qh6 x l[i] hx (he _ (List.getElem_mem hlt))
   obtain ⟨r, r1, r2, r3⟩ := ih (i + 1) y.1 (by omega) y3
   refine ⟨r, ?_, ?_, r3⟩
   ·rw [Qi]
    simp only [Xf, Qx hlt, Qg hlt, Qw hlt, cond_true, Qa, y2, Option.bind_some, QL (show (i : Int) < 9223372036854775807 by omega)]
    exact r1
   ·rw [List.drop_eq_getElem_cons hlt]
    simp only [Qf4, y1, Option.bind_some]
    exact r2
 obtain ⟨r, r1, r2, r3⟩ := key l.length 0 h (by omega) hm
 refine ⟨r, ?_, r2, r3⟩
 unfold Xo
 rw [X9 h hm]
 show (run (Xf l (ln l)) (h, 0)).bind _ = _
 rw [show run (Xf l (ln l)) (h, 0) = some r from r1]; rfl
theorem QBO (h : House) (l : List Event) (k : Nat) (hm : Qh h) (hl : l.length ≤ 1048576) (he : ∀ e ∈ l, JQ e) : ∃ x y, Xo h l = some x ∧ Xo h (l.take k) = some y ∧ Xo y (l.drop k) = some x ∧ Qf4 l h = some x ∧ Qh x ∧ Qh y := by
 obtain ⟨x, x1, x2, x3⟩ := Qpi h l hm hl he
 obtain ⟨y, y1, y2, y3⟩ := Qpi h (l.take k) hm (by rw [List.length_take]; omega) (fun e h => he e (List.mem_of_mem_take h))
 obtain ⟨z, z1, z2, z3⟩ := Qpi y (l.drop k) y3 (by simp; omega) (fun e h => he e (List.mem_of_mem_drop h))
 have : Qf4 (l.take k ++ l.drop k) h = some z := by rw [Qn7, y2]; exact z2
 rw [List.take_append_drop, x2] at this
 injection this with this
 subst this
 exact ⟨x, y, x1, y1, z1, x2, x3, y3⟩
end Go.Proofs.YtponohekgnklkaaGreat
