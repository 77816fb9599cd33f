import Derived.Test.YtcdffihcfeajfaaGreatPyIns
namespace Go.Proofs.YtcdffihcfeajfaaGreat
open Go
set_option linter.unusedVariables false
set_option linter.unusedSimpArgs false
def Qdb (out : List Bid) (c : Int) : Nat → Nat
 | 0 => 0
 | n + 1 => bif decide ((gt out (n : Int)).Cents < c) then Qdb out c n else n + 1
theorem QnU (out : List Bid) (c : Int) : ∀ n, Qdb out c n ≤ n
 | 0 => Nat.le_refl _
 | n + 1 => by
  have := QnU out c n
  unfold Qdb
  cases decide ((gt out (n : Int)).Cents < c) <;> simp <;> omega
def Xa (l : List Bid) : Nat → List Bid
 | 0 => []
 | i + 1 => QaT (Xa l i) ((Qdb (Xa l i) (gt l (i : Int)).Cents i : Nat) : Int) [gt l (i : Int)]
theorem Qdn (l : List Bid) : ∀ i, (Xa l i).length = i
 | 0 => rfl
 | i + 1 => by
  have h := Qdn l i
  unfold Xa
  rw [QrN _ _ (by rw [h]; exact QnU _ _ _), h]
theorem QrB {i : Nat} (h : (i : Int) < 9223372036854775807) : w64 (((i + 1 : Nat) : Int) - 1) = (i : Int) := by rw [Vd] <;> omega
theorem Qsb (l : List Bid) (hl : l.length ≤ 1048576) : Qal l = some (Xa l l.length) := by
 have inner : ∀ (out : List Bid) (i : Nat) (hi : i < l.length) (ho : out.length ≤ 1048576) (n : Nat), n ≤ out.length → run (XC l out (i : Int)) (n : Int) = some ((Qdb out (gt l (i : Int)).Cents n : Nat) : Int) := by
  intro out i hi ho n
  induction n with
  | zero =>
   intro _
   rw [Qs]
   simp only [XC, show decide (0 < ((0 : Nat) : Int)) = false from rfl, cond_false, Option.bind_some, Qdb]
  | succ n ih =>
   intro hn
   rw [Qs]
   simp only [XC, show decide (0 < ((n + 1 : Nat) : Int)) = true from decide_eq_true (by omega), cond_true, QrB (show (n : Int) < 9223372036854775807 by omega), Qg (show n < out.length by omega), Qg hi, Qa, Option.bind_some, Qdb]
   cases decide ((gt out (n : Int)).Cents < (gt l (i : Int)).Cents) with
   | true => simp only [cond_true]; exact ih (by omega)
   | false => rfl
 have hr := Qbv (step := VI l) (fun i => (Xa l i, (i : Int))) (r := Xa l l.length) l.length (fun i hi => by
   have hlen := Qdn l i
   have hp := QnU (Xa l i) (gt l (i : Int)).Cents i
   have hin := inner (Xa l i) i hi (by omega) (Xa l i).length (Nat.le_refl _)
   rw [hlen] at hin
   have hln : ln (Xa l i) = ((i : Nat) : Int) := by rw [Vg, hlen]
   have e1 : slB 0 ((Qdb (Xa l i) (gt l (i : Int)).Cents i : Nat) : Int) (i : Int) = true := Qkj hp
   have e2 : slB ((Qdb (Xa l i) (gt l (i : Int)).Cents i : Nat) : Int) (i : Int) (i : Int) = true := Qwe hp
   have c1 : (cut (Xa l i) 0 ((Qdb (Xa l i) (gt l (i : Int)).Cents i : Nat) : Int)).length = Qdb (Xa l i) (gt l (i : Int)).Cents i := by rw [Qc1, List.length_take, hlen]; omega
   have c3 : (cut (Xa l i) ((Qdb (Xa l i) (gt l (i : Int)).Cents i : Nat) : Int) (i : Int)).length = i - Qdb (Xa l i) (gt l (i : Int)).Cents i := by rw [← hln, Qo7, List.length_drop, hlen]
   simp only [VI, Qu hi, cond_true, hln, hin, Option.bind_some, e1, e2, Qa, Qg hi, V9 (show 0 + (cut (Xa l i) 0 ((Qdb (Xa l i) (gt l (i : Int)).Cents i : Nat) : Int)).length ≤ 2000000 by omega) (show 24 ≤ 1024 by omega), V9 (show (cut (Xa l i) 0 ((Qdb (Xa l i) (gt l (i : Int)).Cents i : Nat) : Int)).length + 1 ≤ 2000000 by omega) (show 24 ≤ 1024 by omega),
    V9 (show (cut (Xa l i) 0 ((Qdb (Xa l i) (gt l (i : Int)).Cents i : Nat) : Int)).length + 1 + (cut (Xa l i) ((Qdb (Xa l i) (gt l (i : Int)).Cents i : Nat) : Int) (i : Int)).length ≤ 2000000 by omega) (show 24 ≤ 1024 by omega), QP (show (i : Int) < 9223372036854775807 by omega)]
   rw [← hln, QvQ, hln]
   rfl)
  (by simp only [VI, Qx (Nat.le_refl _), cond_false])
 unfold Qal
 rw [show run (VI l) ([], 0) = some (Xa l l.length) from hr]; rfl
theorem Qts (x y : Bid) : ∃ c, JM x y = some c ∧ decide (c < 0) = decide (y.Cents < x.Cents) := by
 unfold JM Qa5 QaP
 simp only [decide_true, Bool.not_true, Option.bind_some, cond_false]
 by_cases h : y.Cents < x.Cents
 ·rw [decide_eq_true h]; exact ⟨-1, rfl, rfl⟩
 ·rw [decide_eq_false h]
  by_cases h' : x.Cents < y.Cents
  ·rw [decide_eq_true h']; exact ⟨1, rfl, rfl⟩
  ·rw [decide_eq_false h']; exact ⟨0, rfl, rfl⟩
theorem Qs6 {p q : List Bid} {x : Bid} : gt (p ++ x :: q) (p.length : Int) = x := by
 rw [Qz (by simp)]; simp
theorem QK2 (b i : Int) (p q : List Bid) (x : Bid) (hp : p.length ≤ 1048576) : ∀ j, j ≤ p.length → run (Qq 0 b i) (p.take j ++ x :: (p.drop j ++ q), (j : Int)) = some (QaT p ((Qdb p x.Cents j : Nat) : Int) [x] ++ q) := by
 intro j
 induction j with
 | zero =>
  intro _
  rw [Qs]
  simp only [Qq, show decide (0 < ((0 : Nat) : Int)) = false from rfl, cond_false, Option.bind_some, Qdb]
  simp [QaT]
 | succ j ih =>
  intro hj
  have hlt : j < p.length := by omega
  have hl1 : (p.take (j + 1)).length = j + 1 := by rw [List.length_take]; omega
  have hs : p.take (j + 1) ++ x :: (p.drop (j + 1) ++ q) = p.take j ++ p[j] :: (x :: (p.drop (j + 1) ++ q)) := by
   rw [List.take_succ_eq_append_getElem hlt, List.append_assoc]; rfl
  have g1 : gt (p.take (j + 1) ++ x :: (p.drop (j + 1) ++ q)) ((j + 1 : Nat) : Int) = x := by
   have := Qs6 (p := p.take (j + 1)) (q := p.drop (j + 1) ++ q) (x := x)
   rw [hl1] at this; exact this
  have hl0 : (p.take j).length = j := by rw [List.length_take]; omega
  have g0 : gt (p.take (j + 1) ++ x :: (p.drop (j + 1) ++ q)) (j : Int) = p[j] := by
   rw [hs]
   have := Qs6 (p := p.take j) (q := x :: (p.drop (j + 1) ++ q)) (x := p[j])
   rw [hl0] at this; exact this
  have hlen : (p.take (j + 1) ++ x :: (p.drop (j + 1) ++ q)).length = p.length + 1 + q.length := by simp; omega
  obtain ⟨c, c1, c2⟩ := Qts x p[j]
  rw [Qs]
  simp only [Qq, show decide (0 < ((j + 1 : Nat) : Int)) = true from decide_eq_true (by omega), cond_true, QrB (show (j : Int) < 9223372036854775807 by omega), Qg (show j + 1 < (p.take (j + 1) ++ x :: (p.drop (j + 1) ++ q)).length by omega), Qg (show j < (p.take (j + 1) ++ x :: (p.drop (j + 1) ++ q)).length by omega), Qa, g0, g1, c1, Option.bind_some, c2, Qdb, Qz hlt]
  cases decide (p[j].Cents < x.Cents) with
  | false =>
   simp only [cond_false]
   congr 1
   simp [QaT]
  | true =>
   simp only [cond_true, Int.toNat_natCast]
   have he : ((p.take (j + 1) ++ x :: (p.drop (j + 1) ++ q)).set (j + 1) p[j]).set j x = p.take j ++ x :: (p.drop j ++ q) := by
    rw [hs, List.set_append_right _ _ (by omega), List.set_append_right _ _ (by omega), hl0]
    simp only [Nat.add_sub_cancel_left, Nat.sub_self, List.set_cons_succ, List.set_cons_zero]
    rw [List.drop_eq_getElem_cons hlt]; rfl
   rw [he]
   exact ih (by omega)
theorem QmS (l : List Bid) (hl : l.length ≤ 1048576) (h1 : 1 ≤ l.length) : Qi l 0 (ln l) = some (Xa l l.length) := by
 have hr := Qbv (step := Ql 0 (ln l)) (fun i => (Xa l (i + 1) ++ l.drop (i + 1), ((i + 1 : Nat) : Int))) (r := Xa l l.length) (l.length - 1) (fun i hi => by
   have hlt : i + 1 < l.length := by omega
   have hlen := Qdn l (i + 1)
   have hd : l.drop (i + 1) = l[i + 1] :: l.drop (i + 1 + 1) := List.drop_eq_getElem_cons hlt
   have hk := QK2 (ln l) ((i + 1 : Nat) : Int) (Xa l (i + 1)) (l.drop (i + 1 + 1)) l[i + 1] (by omega) (i + 1) (by omega)
   rw [List.take_of_length_le (by omega), List.drop_of_length_le (show (Xa l (i + 1)).length ≤ i + 1 by omega), List.nil_append] at hk
   simp only [Ql, show decide (((i + 1 : Nat) : Int) < ln l) = true from decide_eq_true (by rw [Vg]; omega), cond_true, hd, hk, Option.bind_some, QP (show ((i + 1 : Nat) : Int) < 9223372036854775807 by omega)]
   rw [show Xa l (i + 1 + 1) = QaT (Xa l (i + 1)) ((Qdb (Xa l (i + 1)) (gt l ((i + 1 : Nat) : Int)).Cents (i + 1) : Nat) : Int) [gt l ((i + 1 : Nat) : Int)] from rfl, Qz hlt])
  (by
   rw [show l.length - 1 + 1 = l.length by omega]
   simp only [Ql, show decide (((l.length : Nat) : Int) < ln l) = false from decide_eq_false (by rw [Vg]; omega), cond_false, List.drop_length, List.append_nil])
 have h0 : Xa l (0 + 1) ++ l.drop (0 + 1) = l := by
  cases l with
  | nil => simp at h1
  | cons x t => simp [Xa, QaT, Qdb, gt]
 unfold Qi
 simp only [h0] at hr
 rw [show w64 (0 + 1) = 1 from rfl, show run (Ql 0 (ln l)) (l, 1) = some (Xa l l.length) from hr]; rfl
theorem Qkh (l : List Bid) : Qi l 20 20 = some l := by
 unfold Qi
 rw [Qs]; rfl
theorem Qp2 (l : List Bid) (hl : l.length ≤ 20) (h1 : 1 ≤ l.length) : ZR l = some (Xa l l.length) := by
 have hrm : rm (0 + l.length) 24 = true := V9 (by omega) (by omega)
 have h7 : ∀ r : List Bid, run (QC r (ln l)) 20 = some () := fun r => by
  rw [Qs]
  simp only [QC, show decide (20 < ln l) = false from decide_eq_false (by rw [Vg]; omega), cond_false, Option.bind_some]
 unfold ZR Qay QR QW
 simp only [hrm, Qa, Option.bind_some]
 by_cases h20 : l.length = 20
 ·have hln : ln l = 20 := by rw [Vg, h20]; rfl
  have hins := QmS l (by omega) h1
  have hr : run (Qo (ln l) 20) (l, 0, 20) = some (Xa l l.length, 20) := by
   rw [Qs]
   simp only [Qo, show decide (20 ≤ ln l) = true from decide_eq_true (by omega), cond_true]
   rw [hln] at hins
   rw [hins]
   simp only [Option.bind_some]
   rw [Qs]
   simp only [Qo, show decide (w64 (20 + 20) ≤ ln l) = false from decide_eq_false (by rw [show w64 (20 + 20) = 40 from rfl, hln]; omega), cond_false, Option.bind_some]
  rw [hr]
  simp only [Option.bind_some]
  rw [hln, Qkh]
  rw [hln] at h7
  simp only [Option.bind_some, h7]
 ·have hr : run (Qo (ln l) 20) (l, 0, 20) = some (l, 0) := by
   rw [Qs]
   simp only [Qo, show decide (20 ≤ ln l) = false from decide_eq_false (by rw [Vg]; omega), cond_false, Option.bind_some]
  rw [hr]
  simp only [Option.bind_some, QmS l (by omega) h1, h7]
end Go.Proofs.YtcdffihcfeajfaaGreat
