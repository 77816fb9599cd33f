import Derived.Test.YtkbilciipmijjaaGreatPz1
namespace Go.Proofs.YtkbilciipmijjaaGreat
open Go
set_option linter.unusedVariables false
set_option linter.unusedSimpArgs false
noncomputable def XD (h : House) : Bool := (QJ h).getD false
theorem Xe (h : House) (hm : Qe h) : Vn h = some (XD h) ∧ QJ h = some (XD h) := by
 obtain ⟨c, c1, c2⟩ := QnS h hm
 unfold XD
 rw [c1, c2]
 exact ⟨rfl, rfl⟩
theorem Qgi (h : House) (hm : Qe h) (hb : XD h = true) : HouseOk h := Qss h hm (by rw [(Xe h hm).2, hb])
theorem QiB (l : List Secret) (hl : smL Qcq l) : Zk l = some l := by
 have hlen := hl.1
 have h1 := XH (step := X9 l (ln l)) (fun i => (l.take i, (i : Int))) (r := l) l.length (fun i hi => by
   have hm : l[i].Marks.length ≤ 1048576 := hl.2 _ (List.getElem_mem hi)
   have hr1 : rm (0 + l[i].Marks.length) 16 = true := Vd (by omega) (by omega)
   have hr2 : rm ((l.take i).length + 1) 40 = true := Vd (by rw [List.length_take]; omega) (by omega)
   simp only [X9, VW, Qn hi, Qd hi, Qj hi, hr1, hr2, cond_true, Qa, Option.bind_some, Qx (show (i : Int) < 9223372036854775807 by omega)]
   rw [List.take_succ_eq_append_getElem hi])
  (by simp only [X9, Qu (Nat.le_refl _), cond_false, List.take_length])
 unfold Zk
 rw [show run (X9 l (ln l)) ([], 0) = _ from by simpa using h1]; rfl
theorem Js (h : House) (hm : Qe h) : QR h = some h := by
 obtain ⟨m1, m2, m3, m4, m5, m6, m7⟩ := hm
 unfold QR Zm VX Vm Qdg Xn JX
 simp only [QiB _ m2, Vd (show 0 + h.Finds.length ≤ 2000000 by omega) (show 64 ≤ 1024 by omega), Vd (show 0 + h.Slots.length ≤ 2000000 by omega) (show 24 ≤ 1024 by omega), Vd (show 0 + h.Claims.length ≤ 2000000 by omega) (show 40 ≤ 1024 by omega),
  Vd (show 0 + h.Trials.length ≤ 2000000 by omega) (show 32 ≤ 1024 by omega), Vd (show 0 + h.Chain.length ≤ 2000000 by omega) (show 40 ≤ 1024 by omega), Vd (show 0 + h.Book.length ≤ 2000000 by omega) (show 32 ≤ 1024 by omega), Qa, Option.bind_some]
theorem Qlc (l : List Bool) (hl : l.length ≤ 1048576) : Xh l false = some (!l.all id) := by
 have hr := Xl l (fun x => decide (false = x)) (fun i => (i : Int)) (step := Zg l false (ln l))
  (fun i hi => by
   simp only [Zg, Qn hi, Qd hi, Qj hi, Qx (show (i : Int) < 9223372036854775807 by omega), cond_true, Qa]
   cases decide (false = l[i]) <;> rfl)
  (by simp only [Zg, Qu (Nat.le_refl _), cond_false])
 unfold Xh QdD
 rw [hr]
 have hall : l.all id = (l.findIdx? (fun x => decide (false = x))).isNone := by
  cases hf : l.findIdx? (fun x => decide (false = x)) with
  | none =>
   rw [List.findIdx?_eq_none_iff] at hf
   simp only [Option.isNone_none, List.all_eq_true]
   intro x hx
   have := hf x hx
   cases x <;> simp at this ⊢
  | some i =>
   obtain ⟨hlt, hp⟩ := Z6 hf
   simp only [Option.isNone_some]
   rw [List.all_eq_false]
   exact ⟨l[i], List.getElem_mem hlt, by simp at hp; simp [← hp]⟩
 rw [hall]
 cases l.findIdx? (fun x => decide (false = x)) with
 | none => rfl
 | some i =>
  simp only [Option.bind_some, evO]
  rw [decide_eq_true (show (0 : Int) ≤ (i : Int) by omega)]; rfl
noncomputable def Qa8 (h out : House) (ok : Bool) : House × Bool := bif ok && (XD h && XD out) then (out, true) else (h, false)
theorem ZW (h out : House) (ok : Bool) (hm : Qe h) (ho : Qe out) : Qe (Qa8 h out ok).1 := by
 unfold Qa8
 cases ok && (XD h && XD out) <;> assumption
theorem QdT (h out : House) : Qa8 h out false = (h, false) := rfl
theorem Qt9 (h out : House) (ok : Bool) (hb : XD h = false) : Qa8 h out ok = (h, false) := by
 unfold Qa8; rw [hb]; cases ok <;> rfl
theorem QbV (h out : House) (ok : Bool) (hm : Qe h) (ho : Qe out) : Qh h out ok = some (Qa8 h out ok) := by
 unfold Qh Qa8
 simp only [(Xe h hm).1, (Xe out ho).1, QaA h hm, Option.bind_some]
 cases ok <;> cases XD h <;> cases XD out <;> rfl
theorem smH {h : House} (hm : Qe h) {f : List Find} {s : List Secret} {t : List Slot} {c : List Claim} {r : List Trial} {n : List Hand} {b : List Entry} {k : Int} (h1 : f.length ≤ 1048576) (h2 : smL Qcq s) (h3 : t.length ≤ 1048576) (h4 : c.length ≤ 1048576) (h5 : r.length ≤ 1048576) (h6 : n.length ≤ 1048576) (h7 : b.length ≤ 1048576) :
  Qe ⟨h.No, f, s, t, c, r, n, b, k⟩ := ⟨h1, h2, h3, h4, h5, h6, h7⟩
end Go.Proofs.YtkbilciipmijjaaGreat
namespace Go.Proofs.YtkbilciipmijjaaGreat
open Go
set_option linter.unusedVariables false
set_option linter.unusedSimpArgs false
def Qcy (l : List Claim) (i : Nat) : Bool :=
 (decide (1 ≤ (gt l (i : Int)).Id) && decide ((gt l (i : Int)).Id ≤ 999)) && ((decide (1 ≤ (gt l (i : Int)).Who) && decide ((gt l (i : Int)).Who ≤ 999)) && ((decide (1 ≤ (gt l (i : Int)).Thing) && decide ((gt l (i : Int)).Thing ≤ 999)) && ((decide (0 ≤ (gt l (i : Int)).At) && decide ((gt l (i : Int)).At ≤ 100000)) && ((decide (0 ≤ (gt l (i : Int)).State) && decide ((gt l (i : Int)).State ≤ 3)) &&
  ((decide (i = 0) || !decide ((gt l (i : Int)).Id ≤ (gt l ((i - 1 : Nat) : Int)).Id)) && !(l.take i).any (Qdq (gt l (i : Int))))))))
theorem Qqr (l : List Claim) (hl : l.length ≤ 2097152) (i : Nat) (hi : i < l.length) : Q0 l (i : Int) = some (bif Qcy l i then .inl ((i + 1 : Nat) : Int) else .inr (.ret false)) := by
 have hin := QdJ l i hi (by omega)
 simp only [Q0, Qcy, Qn hi, Qd hi, Qj hi, Qx (show (i : Int) < 9223372036854775807 by omega), cond_true, Qa, Qc, Option.bind_some, hin]
 generalize (l.take i).any (Qdq l[i]) = q
 by_cases h0 : 0 < i
 ·simp only [show decide (0 < (i : Int)) = true from decide_eq_true (by omega), show decide (i = 0) = false from decide_eq_false (by omega), Qal h0 (by omega), Qd (show i - 1 < l.length by omega), cond_true, Qa]
  cases (decide (1 ≤ l[i].Id) && decide (l[i].Id ≤ 999)) <;> cases (decide (1 ≤ l[i].Who) && decide (l[i].Who ≤ 999)) <;> cases (decide (1 ≤ l[i].Thing) && decide (l[i].Thing ≤ 999)) <;> cases (decide (0 ≤ l[i].At) && decide (l[i].At ≤ 100000)) <;> cases (decide (0 ≤ l[i].State) && decide (l[i].State ≤ 3)) <;> cases decide (l[i].Id ≤ (gt l ((i - 1 : Nat) : Int)).Id) <;> cases q <;> rfl
 ·simp only [show decide (0 < (i : Int)) = false from decide_eq_false (by omega), show decide (i = 0) = true from decide_eq_true (by omega), cond_false]
  cases (decide (1 ≤ l[i].Id) && decide (l[i].Id ≤ 999)) <;> cases (decide (1 ≤ l[i].Who) && decide (l[i].Who ≤ 999)) <;> cases (decide (1 ≤ l[i].Thing) && decide (l[i].Thing ≤ 999)) <;> cases (decide (0 ≤ l[i].At) && decide (l[i].At ≤ 100000)) <;> cases (decide (0 ≤ l[i].State) && decide (l[i].State ≤ 3)) <;> cases q <;> rfl
theorem QkK (l : List Claim) (hl : l.length ≤ 2097152) : QV l = some ((List.range l.length).all (Qcy l) && decide ((l.length : Int) ≤ 20)) := by
 have key : ∀ (m i : Nat), i + m = l.length → run (Q0 l) (i : Int) = some (bif (List.range' i m).all (Qcy l) then .brk () else .ret false) := by
  intro m
  induction m with
  | zero =>
   intro i hi
   have : i = l.length := by omega
   subst this
   rw [Qi]
   simp only [Q0, Qu (Nat.le_refl _), cond_false, List.range'_zero, List.all_nil, cond_true, Option.bind_some]
  | succ m ih =>
   intro i hi
   rw [Qi, Qqr l hl i (by omega), List.range'_succ, List.all_cons]
   cases Qcy l i with
   | false => rfl
   | true => simp only [cond_true, Bool.true_and]; exact ih (i + 1) (by omega)
 unfold QV
 rw [show run (Q0 l) 0 = _ from key l.length 0 (by omega), ← List.range_eq_range']
 cases (List.range l.length).all (Qcy l) <;> rfl
theorem QeO (l : List Claim) (h : QV l = some true) (hl : l.length ≤ 2097152) : l.length ≤ 20 ∧ ∀ i, i < l.length → Qcy l i = true := by
 rw [QkK l hl] at h
 simp only [Option.some.injEq, Bool.and_eq_true, decide_eq_true_eq, List.all_eq_true, List.mem_range] at h
 exact ⟨by omega, h.1⟩
theorem Qn6 {α : Type} [Inhabited α] (l : List α) (k : Nat) (x : α) (i : Nat) (hi : i < l.length) : gt (l.set k x) (i : Int) = if i = k then x else gt l (i : Int) := by
 rw [Qj (by rw [List.length_set]; exact hi), Qj hi, List.getElem_set]
 by_cases h : i = k
 ·subst h; simp
 ·rw [if_neg h, if_neg (by omega)]
theorem Qmd (l : List Claim) (k i : Nat) (x y : Claim) (hi : i ≤ l.length) (hx : x.State ≠ 3) (h : (l.take i).any (Qdq y) = false) : ((l.set k x).take i).any (Qdq y) = false := by
 rw [List.any_eq_false] at h ⊢
 intro z hz
 obtain ⟨j, hj, rfl⟩ := List.getElem_of_mem hz
 have hj' : j < i ∧ j < l.length := by simp at hj; omega
 rw [List.getElem_take, List.getElem_set]
 by_cases hk : k = j
 ·rw [if_pos hk]; unfold Qdq; simp [hx]
 ·rw [if_neg hk]
  exact h _ (by
   rw [List.mem_take_iff_getElem]
   exact ⟨j, by omega, rfl⟩)
theorem Qqf (l : List Claim) (k : Nat) (hk : k < l.length) (s : Int) (hs : s = 1 ∨ s = 2) (hl : l.length ≤ 1048576) (h : QV l = some true) : QV (l.set k ⟨l[k].Id, l[k].Who, l[k].Thing, l[k].At, s⟩) = some true := by
 obtain ⟨h1, h2⟩ := QeO l h (by omega)
 rw [QkK _ (by rw [List.length_set]; omega)]
 rw [List.length_set]
 have : (List.range l.length).all (Qcy (l.set k ⟨l[k].Id, l[k].Who, l[k].Thing, l[k].At, s⟩)) = true := by
  rw [List.all_eq_true]
  intro i hi
  rw [List.mem_range] at hi
  have ho := h2 i hi
  have hgi : ∀ j, j < l.length → (gt (l.set k ⟨l[k].Id, l[k].Who, l[k].Thing, l[k].At, s⟩) (j : Int)).Id = (gt l (j : Int)).Id := by
   intro j hj
   rw [Qn6 l k _ j hj]
   by_cases hjk : j = k
   ·subst hjk; rw [if_pos rfl, Qj hj]
   ·rw [if_neg hjk]
  unfold Qcy at ho ⊢
  rw [hgi i hi, hgi (i - 1) (by omega)]
  simp only [Bool.and_eq_true] at ho ⊢
  obtain ⟨o1, o2, o3, o4, o5, o6, o7⟩ := ho
  rw [Qn6 l k _ i hi]
  by_cases hik : i = k
  ·subst hik
   rw [Qj hi] at o1 o2 o3 o4 o5 o6 o7
   rw [if_pos rfl, Qj hi]
   refine ⟨o1, o2, o3, o4, ?_, o6, ?_⟩
   ·rcases hs with rfl | rfl <;> exact ⟨rfl, rfl⟩
   ·have hst : s ≠ 3 := by omega
    rw [show ((l.set i ⟨l[i].Id, l[i].Who, l[i].Thing, l[i].At, s⟩).take i).any (Qdq ⟨l[i].Id, l[i].Who, l[i].Thing, l[i].At, s⟩) = false from by
     rw [List.any_eq_false]; intro z _; unfold Qdq; simp [hst]]
    rfl
  ·rw [if_neg hik]
   refine ⟨o1, o2, o3, o4, o5, o6, ?_⟩
   have o7' : (l.take i).any (Qdq (gt l (i : Int))) = false := by simpa using o7
   rw [Qmd l k i _ _ (by omega) (by show s ≠ 3; omega) o7']
   rfl
 rw [this]
 simp; omega
end Go.Proofs.YtkbilciipmijjaaGreat
namespace Go.Proofs.YtkbilciipmijjaaGreat
open Go
set_option linter.unusedVariables false
set_option linter.unusedSimpArgs false
theorem QaD (h out : House) (done : List Bool) (hm : Qe h) (ho : Qe out) (hd : done.length ≤ 1048576) : VB h out done = some (Qa8 h out (done.all id)) := by
 unfold VB Qa8
 simp only [(Xe h hm).2, (Xe out ho).2, Js h hm, Qlc done hd, Option.bind_some]
 cases done.all id <;> cases XD h <;> cases XD out <;> rfl
end Go.Proofs.YtkbilciipmijjaaGreat
namespace Go.Proofs.YtkbilciipmijjaaGreat
open Go
set_option linter.unusedVariables false
set_option linter.unusedSimpArgs false
theorem QwS (h : House) (n : Int) (hm : Qe h) : ∃ r, Qbf h n = some r ∧ QdV h n = some r ∧ Qe r.1 := by
 have ho : Qe ⟨h.No, h.Finds, h.Secrets, h.Slots, h.Claims, h.Trials, h.Chain, h.Book, w64 (h.Now + n)⟩ := hm
 refine ⟨Qa8 h ⟨h.No, h.Finds, h.Secrets, h.Slots, h.Claims, h.Trials, h.Chain, h.Book, w64 (h.Now + n)⟩ (decide (1 ≤ n) && decide (n ≤ 10000)), ?_, ?_, ZW _ _ _ hm ho⟩
 ·unfold Qbf
  simp only [QaA h hm, Qc, QbV h _ _ hm ho, Option.bind_some]
  cases hn : (decide (1 ≤ n) && decide (n ≤ 10000)) with
  | false => rfl
  | true =>
   cases hw : (decide (0 ≤ h.Now) && decide (h.Now ≤ 100000)) with
   | true => rfl
   | false =>
    have hb : XD h = false := by
     cases hb : XD h with
     | false => rfl
     | true =>
      have := (Qgi h hm hb).now
      rw [decide_eq_true this.1, decide_eq_true this.2] at hw
      cases hw
    rw [Qt9 _ _ _ hb]; rfl
 ·unfold QdV
  simp only [Js h hm, Qb, Option.bind_some, QaD h _ _ hm ho (show [decide (1 ≤ n) && decide (n ≤ 10000)].length ≤ 1048576 by simp), List.all_cons, List.all_nil, Bool.and_true, id]
end Go.Proofs.YtkbilciipmijjaaGreat
namespace Go.Proofs.YtkbilciipmijjaaGreat
open Go
set_option linter.unusedVariables false
set_option linter.unusedSimpArgs false
def QaC (l : List Claim) (id : Int) : Int := match l.findIdx? (fun x => decide (x.Id = id)) with | some i => (i : Int) | none => -1
theorem Qhj (l : List Claim) (id : Int) (hl : l.length ≤ 1048576) : X8 l id = some (QaC l id) := by
 have hi := Xl l (fun x => decide (x.Id = id)) (fun i => (i : Int)) (step := QS l id (ln l))
  (fun i hi => by
   simp only [QS, Qej, Option.bind_some, Qn hi, Qd hi, Qj hi, Qx (show (i : Int) < 9223372036854775807 by omega), cond_true, Qa]
   cases decide (l[i].Id = id) <;> rfl)
  (by simp only [QS, Qu (Nat.le_refl _), cond_false])
 unfold X8 XF QaC
 rw [hi]
 cases l.findIdx? (fun x => decide (x.Id = id)) <;> rfl
theorem QeM (l : List Claim) (id : Int) : QaC l id = -1 ∨ ∃ k : Nat, ∃ hk : k < l.length, QaC l id = (k : Int) ∧ l[k].Id = id := by
 unfold QaC
 cases hf : l.findIdx? (fun x => decide (x.Id = id)) with
 | none => exact .inl rfl
 | some i =>
  obtain ⟨hi, hp⟩ := Z6 hf
  exact .inr ⟨i, hi, rfl, by simpa using hp⟩
theorem QjH (l : List Claim) (id : Int) (j : Nat) (hj : j < l.length) (h : l[j].Id = id) : ∃ k : Nat, ∃ hk : k < l.length, QaC l id = (k : Int) ∧ l[k].Id = id := by
 rcases QeM l id with h0 | h0
 ·exfalso
  unfold QaC at h0
  cases hf : l.findIdx? (fun x => decide (x.Id = id)) with
  | none =>
   have := List.findIdx?_eq_none_iff.1 hf _ (List.getElem_mem hj)
   simp [h] at this
  | some i => rw [hf] at h0; simp only at h0; omega
 ·exact h0
theorem Qhk (h : House) (ht : VN h = some true) : h.Trials.length = h.Claims.length := by
 by_cases hlen : h.Trials.length = h.Claims.length
 ·exact hlen
 ·exfalso
  unfold VN at ht
  rw [show (!decide (ln h.Trials = ln h.Claims)) = true from by rw [Vz, Vz]; simp; omega] at ht
  cases ht
end Go.Proofs.YtkbilciipmijjaaGreat
namespace Go.Proofs.YtkbilciipmijjaaGreat
open Go
set_option linter.unusedVariables false
set_option linter.unusedSimpArgs false
theorem QbG (l : List Claim) (id : Int) (hl : l.length ≤ 1048576) : JZ l id = some (QaC l id) ∧ X8 l id = some (QaC l id) := by
 have hs := Xl l (fun x => decide (x.Id = id)) (fun i => (i : Int)) (step := Jk l id)
  (fun i hi => by
   simp only [Jk, Qn hi, Qd hi, Qj hi, Qx (show (i : Int) < 9223372036854775807 by omega), cond_true, Qa]
   cases decide (l[i].Id = id) <;> rfl)
  (by simp only [Jk, Qu (Nat.le_refl _), cond_false])
 refine ⟨?_, Qhj l id hl⟩
 unfold JZ QaC
 rw [hs]
 cases l.findIdx? (fun x => decide (x.Id = id)) <;> rfl
end Go.Proofs.YtkbilciipmijjaaGreat
namespace Go.Proofs.YtkbilciipmijjaaGreat
open Go
set_option linter.unusedVariables false
set_option linter.unusedSimpArgs false
theorem Qg2 (l : List Claim) (id s : Int) (k : Nat) (hk : k < l.length) (hid : QaC l id = (k : Int)) (h0 : l[k].State = 0) (hs : s = 1 ∨ s = 2) (hl : l.length ≤ 1048576) (h : QV l = some true) (hI : VZ l = some true) :
  Zs l id s = some (l.set k ⟨l[k].Id, l[k].Who, l[k].Thing, l[k].At, s⟩, true) := by
 obtain ⟨d, d1, d2, d3⟩ := Qc8 (l.set k ⟨l[k].Id, l[k].Who, l[k].Thing, l[k].At, s⟩) (by rw [List.length_set]; omega)
 rw [Qqf l k hk s hs hl h] at d1
 cases d1
 unfold Zs Vm
 have hrm : rm (0 + l.length) 40 = true := Vd (by omega) (by omega)
 simp only [hrm, Qa, (QbG l id hl).2, hI, Option.bind_some, hid, decide_eq_false (show ¬ (k : Int) < 0 by omega), cond_false, Bool.not_true, Qd hk, Qj hk, Int.toNat_natCast, d2, h0, decide_true, cond_true]
 rcases hs with rfl | rfl <;> rfl
theorem Quw (x : Int) : ∃ c, J9 [x] = some c ∧ Qco [x] = some c ∧ 0 ≤ c ∧ c < 2147483647 := by
 obtain ⟨c, hc, h0, h1⟩ : ∃ c, QbN x 2147483647 = some c ∧ 0 ≤ c ∧ c < 2147483647 := by
  rw [Qq3]
  obtain ⟨h1, h2⟩ := QjF x (m := 2147483647) (by omega)
  unfold QbO Qb
  simp only [Option.bind_some, show (decide ((1 : Int) ≤ 2147483647) && decide ((2147483647 : Int) ≤ 1000000000000)) = true from rfl, Bool.not_true, cond_false, show (!decide ((2147483647 : Int) = 0)) = true from rfl, Qa]
  generalize x.tmod 2147483647 = t at h1 h2
  by_cases ht : t < 0
  ·rw [decide_eq_true ht]; exact ⟨_, rfl, by rw [Vb] <;> omega, by rw [Vb] <;> omega⟩
  ·rw [decide_eq_false ht]; exact ⟨_, rfl, by omega, by omega⟩
 have hs : J9 [x] = some ((11000033 + c + 13).tmod 2147483647) := by
  unfold J9
  have hr := XH (step := V6 [x]) (fun i => if i = 0 then (11, 0) else ((11000033 + c + 13).tmod 2147483647, 1)) (r := (11000033 + c + 13).tmod 2147483647) 1 (fun i hi => by
   have : i = 0 := by omega
   subst this
   simp only [V6, if_true, show decide ((0 : Int) < ln [x]) = true from rfl, show inb [x] 0 = true from rfl, show gt [x] (0 : Int) = x from rfl, cond_true, Qa, hc, Option.bind_some, show ¬ (0 + 1 = 0) from by omega, if_false]
   rw [show w64 (11 * 1000003) = 11000033 from rfl, show w64 (0 + 1) = 1 from rfl, Vb (show _ ≤ 11000033 + c by omega) (by omega), Vb (show _ ≤ 11000033 + c + 13 by omega) (by omega)])
   (by simp only [V6, show ¬ (1 = 0) from by omega, if_false]; rfl)
  rw [show run (V6 [x]) (11, 0) = _ from hr]; rfl
 refine ⟨_, hs, by rw [← Qrm, hs], Int.tmod_nonneg _ (by omega), Int.tmod_lt_of_pos _ (by omega)⟩
theorem QoJ (l : List Mark) (c v : Int) (hl : l.length ≤ 1048576) : ∃ q, ZQ l c v = some q ∧ Qcp l c v = some q := by
 obtain ⟨m, m1, m2⟩ := Qh8 l (by omega)
 obtain ⟨c', c1, c2, c3, c4⟩ := Quw c
 unfold ZQ Qcp Qc Qb
 simp only [m1, m2, Option.bind_some]
 by_cases h0 : ln l = 0
 ·rw [decide_eq_true h0]; exact ⟨0, rfl, rfl⟩
 ·rw [decide_eq_false h0]
  have hpos : 0 < ln l := by rw [Vz] at h0 ⊢; omega
  cases m with
  | false => exact ⟨0, rfl, rfl⟩
  | true =>
   cases hv : (decide (0 ≤ v) && decide (v ≤ 1000)) with
   | false => exact ⟨0, rfl, rfl⟩
   | true =>
    simp only [Bool.and_eq_true, decide_eq_true_eq] at hv
    have hb := Int.tmod_lt_of_pos c' hpos
    have hn := Int.tmod_nonneg (ln l) c3
    have hle : ln l ≤ 1048576 := by rw [Vz]; omega
    have hmod : QbN c' (ln l) = some (c'.tmod (ln l)) := by
     unfold QbN Qc
     simp only [Option.bind_some, show (decide (1 ≤ ln l) && decide (ln l ≤ 1000000000000)) = true from by rw [decide_eq_true (show 1 ≤ ln l by omega), decide_eq_true (show ln l ≤ 1000000000000 by omega)]; rfl, Bool.not_true, cond_false, decide_eq_false h0, Bool.not_false, Qa]
     rw [Vb (by omega) (by omega), Int.tmod_eq_emod_of_nonneg (show 0 ≤ c'.tmod (ln l) + ln l by omega), Int.add_emod_right, Int.emod_eq_of_lt hn hb]
    have hin : inb l ((w64 (c'.tmod (ln l) + v)).tmod (ln l)) = true := by
     rw [Vb (by omega) (by omega), Qcx]
     exact ⟨Int.tmod_nonneg _ (by omega), by have := Int.tmod_lt_of_pos (c'.tmod (ln l) + v) hpos; rw [Vz] at this; exact this⟩
    simp only [c1, c2, hmod, Option.bind_some, cond_false, Bool.not_true, Bool.not_false, Qa, hin]
    exact ⟨_, rfl, rfl⟩
theorem Qnj (l : List Mark) (x : Trial) (hl : l.length ≤ 1048576) : ∃ q, Zi l x = some q ∧ QbP l x = some q := by
 obtain ⟨s, s1, s2⟩ := Qe0 l x hl
 obtain ⟨q, q1, q2⟩ := QoJ l x.Claim x.Asked hl
 unfold Zi QbP
 simp only [s1, s2, q1, q2, Option.bind_some]
 cases decide (s = 0) <;> exact ⟨_, rfl, rfl⟩
theorem QwT (l : List Mark) (q : Int) (hl : l.length ≤ 1048576) : ∃ a, Qbh l q = some a ∧ Qea l q = some a := by
 have hs := Xl l (fun x => decide (x.Question = q)) (fun i => (gt l (i : Int)).Answer) (step := JQ l q)
  (fun i hi => by
   simp only [JQ, Qn hi, Qd hi, Qj hi, Qx (show (i : Int) < 9223372036854775807 by omega), cond_true, Qa]
   cases decide (l[i].Question = q) <;> rfl)
  (by simp only [JQ, Qu (Nat.le_refl _), cond_false])
 have hi := Xl l (fun x => decide (x.Question = q)) (fun i => (gt l (i : Int)).Answer) (step := Qa6 q l (ln l))
  (fun i hi => by
   simp only [Qa6, Qn hi, Qd hi, Qj hi, Qx (show (i : Int) < 9223372036854775807 by omega), cond_true, Qa]
   cases decide (l[i].Question = q) <;> rfl)
  (by simp only [Qa6, Qu (Nat.le_refl _), cond_false])
 unfold Qbh Qea
 rw [hs, hi]
 cases l.findIdx? (fun x => decide (x.Question = q)) <;> exact ⟨_, rfl, rfl⟩
theorem Qqz (l : List Mark) (x : Trial) (a : Int) (hl : l.length ≤ 1048576) : ∃ r, Qao l x a = some r ∧ QcS l x a = some r := by
 obtain ⟨q, q1, q2⟩ := Qnj l x hl
 obtain ⟨b, b1, b2⟩ := QwT l q hl
 unfold Qao QcS
 simp only [q1, q2, b1, b2, Option.bind_some]
 cases decide (q = 0) <;> cases decide (b = a) <;> exact ⟨_, rfl, rfl⟩
theorem QqN (h : House) (id a : Int) (hm : Qe h) : ∃ r, Qan h id a = some r ∧ QcP h id a = some r ∧ Qe r.1 := by
 have hm7 := hm
 obtain ⟨m1, m2, m3, m4, m5, m6, m7⟩ := hm7
 unfold Qan QcP
 simp only [QaA h hm, Js h hm, (QbG h.Claims id m4).1, (QbG h.Claims id m4).2, (Xe h hm).1, (Xe h hm).2, Option.bind_some]
 rcases QeM h.Claims id with hx | ⟨k, hk, hx, hid⟩
 ·rw [hx]
  refine ⟨(h, false), rfl, ?_, hm⟩
  cases XD h <;> rfl
 ·rw [hx, decide_eq_false (show ¬ (k : Int) < 0 by omega)]
  cases hb : XD h with
  | false => exact ⟨(h, false), rfl, rfl, hm⟩
  | true =>
   have ho := Qgi h hm hb
   simp only [cond_false, Bool.not_true, Qd hk, Qj hk, Qa, Option.bind_some]
   by_cases h0 : h.Claims[k].State = 0
   ·have hkt : k < h.Trials.length := by rw [Qhk h ho.trials]; exact hk
    obtain ⟨m, k1, k2, k3⟩ := QnH h.Secrets h.Claims[k].Thing m2.1 (fun x hx => m2.2 x hx)
    obtain ⟨g, g1, g2⟩ := Qqz m h.Trials[k] a k3
    obtain ⟨s, s1, s2⟩ := Qe0 m g.1 k3
    have hl1 : (h.Trials.set k g.1).length ≤ 1048576 := by rw [List.length_set]; exact m5
    have hl2 : ∀ s : Int, (h.Claims.set k ⟨h.Claims[k].Id, h.Claims[k].Who, h.Claims[k].Thing, h.Claims[k].At, s⟩).length ≤ 1048576 := fun s => by rw [List.length_set]; exact m4
    have w1 : Qe ⟨h.No, h.Finds, h.Secrets, h.Slots, h.Claims.set k ⟨h.Claims[k].Id, h.Claims[k].Who, h.Claims[k].Thing, h.Claims[k].At, 1⟩, h.Trials.set k g.1, h.Chain, h.Book, h.Now⟩ := smH hm m1 m2 m3 (hl2 1) hl1 m6 m7
    have w2 : Qe ⟨h.No, h.Finds, h.Secrets, h.Slots, h.Claims.set k ⟨h.Claims[k].Id, h.Claims[k].Who, h.Claims[k].Thing, h.Claims[k].At, 2⟩, h.Trials.set k g.1, h.Chain, h.Book, h.Now⟩ := smH hm m1 m2 m3 (hl2 2) hl1 m6 m7
    have w3 : Qe ⟨h.No, h.Finds, h.Secrets, h.Slots, h.Claims, h.Trials.set k g.1, h.Chain, h.Book, h.Now⟩ := smH hm m1 m2 m3 m4 hl1 m6 m7
    simp only [h0, decide_true, Bool.not_true, cond_false, k1, k2, g1, g2, s1, s2, Qd hkt, Qj hkt, Qa, Option.bind_some, Int.toNat_natCast,
     Qg2 h.Claims id 1 k hk hx h0 (.inl rfl) m4 ho.cS ho.cI, Qg2 h.Claims id 2 k hk hx h0 (.inr rfl) m4 ho.cS ho.cI, QbV h _ _ hm w1, QbV h _ _ hm w2, QbV h _ _ hm w3,
     QaD h _ _ hm w1 (show [g.2].length ≤ 1048576 by simp), QaD h _ _ hm w2 (show [g.2].length ≤ 1048576 by simp), QaD h _ _ hm w3 (show [g.2].length ≤ 1048576 by simp), List.all_cons, List.all_nil, Bool.and_true, id_eq]
    cases decide (s = 1) with
    | true => exact ⟨_, rfl, rfl, ZW _ _ _ hm w1⟩
    | false => cases decide (s = 2) with
     | true => exact ⟨_, rfl, rfl, ZW _ _ _ hm w2⟩
     | false => exact ⟨_, rfl, rfl, ZW _ _ _ hm w3⟩
   ·simp only [decide_eq_false h0, Bool.not_false, cond_true]
    exact ⟨(h, false), rfl, rfl, hm⟩
end Go.Proofs.YtkbilciipmijjaaGreat
namespace Go.Proofs.YtkbilciipmijjaaGreat
open Go
set_option linter.unusedVariables false
set_option linter.unusedSimpArgs false
theorem Qwy (l : List Claim) (id s : Int) (hl : l.length ≤ 1048576) : ∃ r, Qbl l id s = some r ∧ Zs l id s = some r ∧ r.1.length = l.length := by
 obtain ⟨c, c1, c2, c3⟩ := Qc8 l hl
 unfold Qbl Zs Vm
 have hrm : rm (0 + l.length) 40 = true := Vd (by omega) (by omega)
 simp only [hrm, Qa, (QbG l id hl).1, (QbG l id hl).2, c1, c2, Option.bind_some]
 rcases QeM l id with h | ⟨k, hk, h, hid⟩
 ·rw [h]; exact ⟨(l, false), rfl, rfl, rfl⟩
 ·rw [h, decide_eq_false (show ¬ (k : Int) < 0 by omega)]
  cases c with
  | false => exact ⟨(l, false), rfl, rfl, rfl⟩
  | true =>
   obtain ⟨d, d1, d2, d3⟩ := Qc8 (l.set k ⟨l[k].Id, l[k].Who, l[k].Thing, l[k].At, s⟩) (by rw [List.length_set]; omega)
   simp only [cond_false, Option.bind_some, Bool.not_true, Qd hk, Qj hk, Qa, Int.toNat_natCast, d1, d2]
   have hset := List.length_set (as := l) (i := k) (a := (⟨l[k].Id, l[k].Who, l[k].Thing, l[k].At, s⟩ : Claim))
   cases decide (l[k].State = 0) <;> cases decide (s = 1) <;> cases decide (s = 2) <;> cases decide (l[k].State = 1) <;> cases decide (s = 3) <;> cases d <;> first | exact ⟨(l, false), rfl, rfl, rfl⟩ | exact ⟨(l.set k ⟨l[k].Id, l[k].Who, l[k].Thing, l[k].At, s⟩, true), rfl, rfl, hset⟩
end Go.Proofs.YtkbilciipmijjaaGreat
