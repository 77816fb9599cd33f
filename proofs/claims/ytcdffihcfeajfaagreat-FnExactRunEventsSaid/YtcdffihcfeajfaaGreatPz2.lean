import Derived.Test.YtcdffihcfeajfaaGreatPz1
namespace Go.Proofs.YtcdffihcfeajfaaGreat
open Go
set_option linter.unusedVariables false
set_option linter.unusedSimpArgs false
noncomputable def XC (h : House) : Bool := (Vq h).getD false
theorem Xh (h : House) (hm : Qm h) : Xl h = some (XC h) ∧ Vq h = some (XC h) := by
 obtain ⟨c, c1, c2⟩ := QBX h hm
 unfold XC
 rw [c1, c2]
 exact ⟨rfl, rfl⟩
theorem QhZ (h : House) (hm : Qm h) (hb : XC h = true) : HouseOk h := QB1 h hm (by rw [(Xh h hm).2, hb])
theorem QjI (l : List Secret) (hl : smL Xf l) : Xo l = some l := by
 have hlen := hl.1
 have h1 := QbS (step := VN l (ln l)) (fun i => (l.take i, (i : Int))) (r := l) l.length (fun i hi => by
   have hm : l[i].Marks.length ≤ 1048576 := hl.2 _ (List.getElem_mem hi)
   have hr1 : rm (0 + l[i].Marks.length) 16 = true := VA (by omega) (by omega)
   have hr2 : rm ((l.take i).length + 1) 40 = true := VA (by rw [List.length_take]; omega) (by omega)
   simp only [VN, VY, Qo hi, Qd hi, Qp hi, hr1, hr2, cond_true, Qa, Option.bind_some, QF (show (i : Int) < 9223372036854775807 by omega)]
   rw [List.take_succ_eq_append_getElem hi])
  (by simp only [VN, Qu (Nat.le_refl _), cond_false, List.take_length])
 unfold Xo
 rw [show run (VN l (ln l)) ([], 0) = _ from by simpa using h1]; rfl
theorem XN (h : House) (hm : Qm h) : QO h = some h := by
 obtain ⟨m1, m2, m3, m4, m5, m6, m7⟩ := hm
 unfold QO Xk VZ Vk QaL VJ Xb
 simp only [QjI _ m2, VA (show 0 + h.Finds.length ≤ 2000000 by omega) (show 64 ≤ 1024 by omega), VA (show 0 + h.Slots.length ≤ 2000000 by omega) (show 24 ≤ 1024 by omega), VA (show 0 + h.Claims.length ≤ 2000000 by omega) (show 40 ≤ 1024 by omega),
  VA (show 0 + h.Trials.length ≤ 2000000 by omega) (show 32 ≤ 1024 by omega), VA (show 0 + h.Chain.length ≤ 2000000 by omega) (show 40 ≤ 1024 by omega), VA (show 0 + h.Book.length ≤ 2000000 by omega) (show 32 ≤ 1024 by omega), Qa, Option.bind_some]
theorem QoF (l : List Bool) (hl : l.length ≤ 1048576) : VB l false = some (!l.all id) := by
 have hr := XD l (fun x => decide (false = x)) (fun i => (i : Int)) (step := Xg l false (ln l))
  (fun i hi => by
   simp only [Xg, Qo hi, Qd hi, Qp hi, QF (show (i : Int) < 9223372036854775807 by omega), cond_true, Qa]
   cases decide (false = l[i]) <;> rfl)
  (by simp only [Xg, Qu (Nat.le_refl _), cond_false])
 unfold VB Qbt
 rw [hr]
 have hall : l.all id = (l.findIdx? (fun x => decide (false = x))).isNone := by
  cases hf : l.findIdx? (fun x => decide (false = x)) with
  | none =>
   rw [List.findIdx?_eq_none_iff] at hf
   simp only [Option.isNone_none, List.all_eq_true]
   intro x hx
   have := hf x hx
   cases x <;> simp at this ⊢
  | some i =>
   obtain ⟨hlt, hp⟩ := Qcm hf
   simp only [Option.isNone_some]
   rw [List.all_eq_false]
   exact ⟨l[i], List.getElem_mem hlt, by simp at hp; simp [← hp]⟩
 rw [hall]
 cases l.findIdx? (fun x => decide (false = x)) with
 | none => rfl
 | some i =>
  simp only [Option.bind_some, evO]
  rw [decide_eq_true (show (0 : Int) ≤ (i : Int) by omega)]; rfl
noncomputable def Qcq (h out : House) (ok : Bool) : House × Bool := bif ok && (XC h && XC out) then (out, true) else (h, false)
theorem Qal (h out : House) (ok : Bool) (hm : Qm h) (ho : Qm out) : Qm (Qcq h out ok).1 := by
 unfold Qcq
 cases ok && (XC h && XC out) <;> assumption
theorem QfD (h out : House) : Qcq h out false = (h, false) := rfl
theorem QwD (h out : House) (ok : Bool) (hb : XC h = false) : Qcq h out ok = (h, false) := by
 unfold Qcq; rw [hb]; cases ok <;> rfl
theorem QdC (h out : House) (ok : Bool) (hm : Qm h) (ho : Qm out) : Qq h out ok = some (Qcq h out ok) := by
 unfold Qq Qcq
 simp only [(Xh h hm).1, (Xh out ho).1, Qck h hm, Option.bind_some]
 cases ok <;> cases XC h <;> cases XC out <;> rfl
theorem smH {h : House} (hm : Qm h) {f : List Find} {s : List Secret} {t : List Slot} {c : List Claim} {r : List Trial} {n : List Hand} {b : List Entry} {k : Int} (h1 : f.length ≤ 1048576) (h2 : smL Xf s) (h3 : t.length ≤ 1048576) (h4 : c.length ≤ 1048576) (h5 : r.length ≤ 1048576) (h6 : n.length ≤ 1048576) (h7 : b.length ≤ 1048576) :
  Qm ⟨h.No, f, s, t, c, r, n, b, k⟩ := ⟨h1, h2, h3, h4, h5, h6, h7⟩
end Go.Proofs.YtcdffihcfeajfaaGreat
namespace Go.Proofs.YtcdffihcfeajfaaGreat
open Go
set_option linter.unusedVariables false
set_option linter.unusedSimpArgs false
def Qem (l : List Claim) (i : Nat) : Bool :=
 (decide (1 ≤ (gt l (i : Int)).Id) && decide ((gt l (i : Int)).Id ≤ 999)) && ((decide (1 ≤ (gt l (i : Int)).Who) && decide ((gt l (i : Int)).Who ≤ 999)) && ((decide (1 ≤ (gt l (i : Int)).Thing) && decide ((gt l (i : Int)).Thing ≤ 999)) && ((decide (0 ≤ (gt l (i : Int)).At) && decide ((gt l (i : Int)).At ≤ 100000)) && ((decide (0 ≤ (gt l (i : Int)).State) && decide ((gt l (i : Int)).State ≤ 3)) &&
  ((decide (i = 0) || !decide ((gt l (i : Int)).Id ≤ (gt l ((i - 1 : Nat) : Int)).Id)) && !(l.take i).any (QeZ (gt l (i : Int))))))))
theorem Quk (l : List Claim) (hl : l.length ≤ 2097152) (i : Nat) (hi : i < l.length) : Vh l (i : Int) = some (bif Qem l i then .inl ((i + 1 : Nat) : Int) else .inr (.ret false)) := by
 have hin := Qfw l i hi (by omega)
 simp only [Vh, Qem, Qo hi, Qd hi, Qp hi, QF (show (i : Int) < 9223372036854775807 by omega), cond_true, Qa, Qe, Option.bind_some, hin]
 generalize (l.take i).any (QeZ l[i]) = q
 by_cases h0 : 0 < i
 ·simp only [show decide (0 < (i : Int)) = true from decide_eq_true (by omega), show decide (i = 0) = false from decide_eq_false (by omega), QaY h0 (by omega), Qd (show i - 1 < l.length by omega), cond_true, Qa]
  cases (decide (1 ≤ l[i].Id) && decide (l[i].Id ≤ 999)) <;> cases (decide (1 ≤ l[i].Who) && decide (l[i].Who ≤ 999)) <;> cases (decide (1 ≤ l[i].Thing) && decide (l[i].Thing ≤ 999)) <;> cases (decide (0 ≤ l[i].At) && decide (l[i].At ≤ 100000)) <;> cases (decide (0 ≤ l[i].State) && decide (l[i].State ≤ 3)) <;> cases decide (l[i].Id ≤ (gt l ((i - 1 : Nat) : Int)).Id) <;> cases q <;> rfl
 ·simp only [show decide (0 < (i : Int)) = false from decide_eq_false (by omega), show decide (i = 0) = true from decide_eq_true (by omega), cond_false]
  cases (decide (1 ≤ l[i].Id) && decide (l[i].Id ≤ 999)) <;> cases (decide (1 ≤ l[i].Who) && decide (l[i].Who ≤ 999)) <;> cases (decide (1 ≤ l[i].Thing) && decide (l[i].Thing ≤ 999)) <;> cases (decide (0 ≤ l[i].At) && decide (l[i].At ≤ 100000)) <;> cases (decide (0 ≤ l[i].State) && decide (l[i].State ≤ 3)) <;> cases q <;> rfl
theorem Qog (l : List Claim) (hl : l.length ≤ 2097152) : Vd l = some ((List.range l.length).all (Qem l) && decide ((l.length : Int) ≤ 20)) := by
 have key : ∀ (m i : Nat), i + m = l.length → run (Vh l) (i : Int) = some (bif (List.range' i m).all (Qem l) then .brk () else .ret false) := by
  intro m
  induction m with
  | zero =>
   intro i hi
   have : i = l.length := by omega
   subst this
   rw [Qt]
   simp only [Vh, Qu (Nat.le_refl _), cond_false, List.range'_zero, List.all_nil, cond_true, Option.bind_some]
  | succ m ih =>
   intro i hi
   rw [Qt, Quk l hl i (by omega), List.range'_succ, List.all_cons]
   cases Qem l i with
   | false => rfl
   | true => simp only [cond_true, Bool.true_and]; exact ih (i + 1) (by omega)
 unfold Vd
 rw [show run (Vh l) 0 = _ from key l.length 0 (by omega), ← List.range_eq_range']
 cases (List.range l.length).all (Qem l) <;> rfl
theorem Qgm (l : List Claim) (h : Vd l = some true) (hl : l.length ≤ 2097152) : l.length ≤ 20 ∧ ∀ i, i < l.length → Qem l i = true := by
 rw [Qog l hl] at h
 simp only [Option.some.injEq, Bool.and_eq_true, decide_eq_true_eq, List.all_eq_true, List.mem_range] at h
 exact ⟨by omega, h.1⟩
theorem Qqx {α : Type} [Inhabited α] (l : List α) (k : Nat) (x : α) (i : Nat) (hi : i < l.length) : gt (l.set k x) (i : Int) = if i = k then x else gt l (i : Int) := by
 rw [Qp (by rw [List.length_set]; exact hi), Qp hi, List.getElem_set]
 by_cases h : i = k
 ·subst h; simp
 ·rw [if_neg h, if_neg (by omega)]
theorem Qpr (l : List Claim) (k i : Nat) (x y : Claim) (hi : i ≤ l.length) (hx : x.State ≠ 3) (h : (l.take i).any (QeZ y) = false) : ((l.set k x).take i).any (QeZ y) = false := by
 rw [List.any_eq_false] at h ⊢
 intro z hz
 obtain ⟨j, hj, rfl⟩ := List.getElem_of_mem hz
 have hj' : j < i ∧ j < l.length := by simp at hj; omega
 rw [List.getElem_take, List.getElem_set]
 by_cases hk : k = j
 ·rw [if_pos hk]; unfold QeZ; simp [hx]
 ·rw [if_neg hk]
  exact h _ (by
   rw [List.mem_take_iff_getElem]
   exact ⟨j, by omega, rfl⟩)
theorem Qus (l : List Claim) (k : Nat) (hk : k < l.length) (s : Int) (hs : s = 1 ∨ s = 2) (hl : l.length ≤ 1048576) (h : Vd l = some true) : Vd (l.set k ⟨l[k].Id, l[k].Who, l[k].Thing, l[k].At, s⟩) = some true := by
 obtain ⟨h1, h2⟩ := Qgm l h (by omega)
 rw [Qog _ (by rw [List.length_set]; omega)]
 rw [List.length_set]
 have : (List.range l.length).all (Qem (l.set k ⟨l[k].Id, l[k].Who, l[k].Thing, l[k].At, s⟩)) = true := by
  rw [List.all_eq_true]
  intro i hi
  rw [List.mem_range] at hi
  have ho := h2 i hi
  have hgi : ∀ j, j < l.length → (gt (l.set k ⟨l[k].Id, l[k].Who, l[k].Thing, l[k].At, s⟩) (j : Int)).Id = (gt l (j : Int)).Id := by
   intro j hj
   rw [Qqx l k _ j hj]
   by_cases hjk : j = k
   ·subst hjk; rw [if_pos rfl, Qp hj]
   ·rw [if_neg hjk]
  unfold Qem at ho ⊢
  rw [hgi i hi, hgi (i - 1) (by omega)]
  simp only [Bool.and_eq_true] at ho ⊢
  obtain ⟨o1, o2, o3, o4, o5, o6, o7⟩ := ho
  rw [Qqx l k _ i hi]
  by_cases hik : i = k
  ·subst hik
   rw [Qp hi] at o1 o2 o3 o4 o5 o6 o7
   rw [if_pos rfl, Qp hi]
   refine ⟨o1, o2, o3, o4, ?_, o6, ?_⟩
   ·rcases hs with rfl | rfl <;> exact ⟨rfl, rfl⟩
   ·have hst : s ≠ 3 := by omega
    rw [show ((l.set i ⟨l[i].Id, l[i].Who, l[i].Thing, l[i].At, s⟩).take i).any (QeZ ⟨l[i].Id, l[i].Who, l[i].Thing, l[i].At, s⟩) = false from by
     rw [List.any_eq_false]; intro z _; unfold QeZ; simp [hst]]
    rfl
  ·rw [if_neg hik]
   refine ⟨o1, o2, o3, o4, o5, o6, ?_⟩
   have o7' : (l.take i).any (QeZ (gt l (i : Int))) = false := by simpa using o7
   rw [Qpr l k i _ _ (by omega) (by show s ≠ 3; omega) o7']
   rfl
 rw [this]
 simp; omega
end Go.Proofs.YtcdffihcfeajfaaGreat
namespace Go.Proofs.YtcdffihcfeajfaaGreat
open Go
set_option linter.unusedVariables false
set_option linter.unusedSimpArgs false
theorem Qbv (h out : House) (done : List Bool) (hm : Qm h) (ho : Qm out) (hd : done.length ≤ 1048576) : Vw h out done = some (Qcq h out (done.all id)) := by
 unfold Vw Qcq
 simp only [(Xh h hm).2, (Xh out ho).2, XN h hm, QoF done hd, Option.bind_some]
 cases done.all id <;> cases XC h <;> cases XC out <;> rfl
end Go.Proofs.YtcdffihcfeajfaaGreat
namespace Go.Proofs.YtcdffihcfeajfaaGreat
open Go
set_option linter.unusedVariables false
set_option linter.unusedSimpArgs false
theorem Qzu (h : House) (n : Int) (hm : Qm h) : ∃ r, QcX h n = some r ∧ QcM h n = some r ∧ Qm r.1 := by
 have ho : Qm ⟨h.No, h.Finds, h.Secrets, h.Slots, h.Claims, h.Trials, h.Chain, h.Book, w64 (h.Now + n)⟩ := hm
 refine ⟨Qcq h ⟨h.No, h.Finds, h.Secrets, h.Slots, h.Claims, h.Trials, h.Chain, h.Book, w64 (h.Now + n)⟩ (decide (1 ≤ n) && decide (n ≤ 10000)), ?_, ?_, Qal _ _ _ hm ho⟩
 ·unfold QcX
  simp only [Qck h hm, Qe, QdC h _ _ hm ho, Option.bind_some]
  cases hn : (decide (1 ≤ n) && decide (n ≤ 10000)) with
  | false => rfl
  | true =>
   cases hw : (decide (0 ≤ h.Now) && decide (h.Now ≤ 100000)) with
   | true => rfl
   | false =>
    have hb : XC h = false := by
     cases hb : XC h with
     | false => rfl
     | true =>
      have := (QhZ h hm hb).now
      rw [decide_eq_true this.1, decide_eq_true this.2] at hw
      cases hw
    rw [QwD _ _ _ hb]; rfl
 ·unfold QcM
  simp only [XN h hm, Qb, Option.bind_some, Qbv h _ _ hm ho (show [decide (1 ≤ n) && decide (n ≤ 10000)].length ≤ 1048576 by simp), List.all_cons, List.all_nil, Bool.and_true, id]
end Go.Proofs.YtcdffihcfeajfaaGreat
namespace Go.Proofs.YtcdffihcfeajfaaGreat
open Go
set_option linter.unusedVariables false
set_option linter.unusedSimpArgs false
def Qbs (l : List Claim) (id : Int) : Int := match l.findIdx? (fun x => decide (x.Id = id)) with | some i => (i : Int) | none => -1
theorem Qjj (l : List Claim) (id : Int) (hl : l.length ≤ 1048576) : V2 l id = some (Qbs l id) := by
 have hi := XD l (fun x => decide (x.Id = id)) (fun i => (i : Int)) (step := Qx l id (ln l))
  (fun i hi => by
   simp only [Qx, Qb3, Option.bind_some, Qo hi, Qd hi, Qp hi, QF (show (i : Int) < 9223372036854775807 by omega), cond_true, Qa]
   cases decide (l[i].Id = id) <;> rfl)
  (by simp only [Qx, Qu (Nat.le_refl _), cond_false])
 unfold V2 Vl Qbs
 rw [hi]
 cases l.findIdx? (fun x => decide (x.Id = id)) <;> rfl
theorem Qgp (l : List Claim) (id : Int) : Qbs l id = -1 ∨ ∃ k : Nat, ∃ hk : k < l.length, Qbs l id = (k : Int) ∧ l[k].Id = id := by
 unfold Qbs
 cases hf : l.findIdx? (fun x => decide (x.Id = id)) with
 | none => exact .inl rfl
 | some i =>
  obtain ⟨hi, hp⟩ := Qcm hf
  exact .inr ⟨i, hi, rfl, by simpa using hp⟩
theorem Ql8 (l : List Claim) (id : Int) (j : Nat) (hj : j < l.length) (h : l[j].Id = id) : ∃ k : Nat, ∃ hk : k < l.length, Qbs l id = (k : Int) ∧ l[k].Id = id := by
 rcases Qgp l id with h0 | h0
 ·exfalso
  unfold Qbs at h0
  cases hf : l.findIdx? (fun x => decide (x.Id = id)) with
  | none =>
   have := List.findIdx?_eq_none_iff.1 hf _ (List.getElem_mem hj)
   simp [h] at this
  | some i => rw [hf] at h0; simp only at h0; omega
 ·exact h0
theorem QiP (h : House) (ht : VO h = some true) : h.Trials.length = h.Claims.length := by
 by_cases hlen : h.Trials.length = h.Claims.length
 ·exact hlen
 ·exfalso
  unfold VO at ht
  rw [show (!decide (ln h.Trials = ln h.Claims)) = true from by rw [Vj, Vj]; simp; omega] at ht
  cases ht
end Go.Proofs.YtcdffihcfeajfaaGreat
namespace Go.Proofs.YtcdffihcfeajfaaGreat
open Go
set_option linter.unusedVariables false
set_option linter.unusedSimpArgs false
theorem Qdl (l : List Claim) (id : Int) (hl : l.length ≤ 1048576) : Zg l id = some (Qbs l id) ∧ V2 l id = some (Qbs l id) := by
 have hs := XD l (fun x => decide (x.Id = id)) (fun i => (i : Int)) (step := Jt l id)
  (fun i hi => by
   simp only [Jt, Qo hi, Qd hi, Qp hi, QF (show (i : Int) < 9223372036854775807 by omega), cond_true, Qa]
   cases decide (l[i].Id = id) <;> rfl)
  (by simp only [Jt, Qu (Nat.le_refl _), cond_false])
 refine ⟨?_, Qjj l id hl⟩
 unfold Zg Qbs
 rw [hs]
 cases l.findIdx? (fun x => decide (x.Id = id)) <;> rfl
end Go.Proofs.YtcdffihcfeajfaaGreat
namespace Go.Proofs.YtcdffihcfeajfaaGreat
open Go
set_option linter.unusedVariables false
set_option linter.unusedSimpArgs false
theorem QiJ (l : List Claim) (id s : Int) (k : Nat) (hk : k < l.length) (hid : Qbs l id = (k : Int)) (h0 : l[k].State = 0) (hs : s = 1 ∨ s = 2) (hl : l.length ≤ 1048576) (h : Vd l = some true) (hI : V4 l = some true) :
  X0 l id s = some (l.set k ⟨l[k].Id, l[k].Who, l[k].Thing, l[k].At, s⟩, true) := by
 obtain ⟨d, d1, d2, d3⟩ := QfY (l.set k ⟨l[k].Id, l[k].Who, l[k].Thing, l[k].At, s⟩) (by rw [List.length_set]; omega)
 rw [Qus l k hk s hs hl h] at d1
 cases d1
 unfold X0 Vk
 have hrm : rm (0 + l.length) 40 = true := VA (by omega) (by omega)
 simp only [hrm, Qa, (Qdl l id hl).2, hI, Option.bind_some, hid, decide_eq_false (show ¬ (k : Int) < 0 by omega), cond_false, Bool.not_true, Qd hk, Qp hk, Int.toNat_natCast, d2, h0, decide_true, cond_true]
 rcases hs with rfl | rfl <;> rfl
theorem QzS (x : Int) : ∃ c, Qan [x] = some c ∧ Qed [x] = some c ∧ 0 ≤ c ∧ c < 2147483647 := by
 obtain ⟨c, hc, h0, h1⟩ : ∃ c, QdT x 2147483647 = some c ∧ 0 ≤ c ∧ c < 2147483647 := by
  rw [QtW]
  obtain ⟨h1, h2⟩ := Qmc x (m := 2147483647) (by omega)
  unfold QdZ Qb
  simp only [Option.bind_some, show (decide ((1 : Int) ≤ 2147483647) && decide ((2147483647 : Int) ≤ 1000000000000)) = true from rfl, Bool.not_true, cond_false, show (!decide ((2147483647 : Int) = 0)) = true from rfl, Qa]
  generalize x.tmod 2147483647 = t at h1 h2
  by_cases ht : t < 0
  ·rw [decide_eq_true ht]; exact ⟨_, rfl, by rw [Q9] <;> omega, by rw [Q9] <;> omega⟩
  ·rw [decide_eq_false ht]; exact ⟨_, rfl, by omega, by omega⟩
 have hs : Qan [x] = some ((11000033 + c + 13).tmod 2147483647) := by
  unfold Qan
  have hr := QbS (step := V7 [x]) (fun i => if i = 0 then (11, 0) else ((11000033 + c + 13).tmod 2147483647, 1)) (r := (11000033 + c + 13).tmod 2147483647) 1 (fun i hi => by
   have : i = 0 := by omega
   subst this
   simp only [V7, if_true, show decide ((0 : Int) < ln [x]) = true from rfl, show inb [x] 0 = true from rfl, show gt [x] (0 : Int) = x from rfl, cond_true, Qa, hc, Option.bind_some, show ¬ (0 + 1 = 0) from by omega, if_false]
   rw [show w64 (11 * 1000003) = 11000033 from rfl, show w64 (0 + 1) = 1 from rfl, Q9 (show _ ≤ 11000033 + c by omega) (by omega), Q9 (show _ ≤ 11000033 + c + 13 by omega) (by omega)])
   (by simp only [V7, show ¬ (1 = 0) from by omega, if_false]; rfl)
  rw [show run (V7 [x]) (11, 0) = _ from hr]; rfl
 refine ⟨_, hs, by rw [← Qvs, hs], Int.tmod_nonneg _ (by omega), Int.tmod_lt_of_pos _ (by omega)⟩
theorem QsZ (l : List Mark) (c v : Int) (hl : l.length ≤ 1048576) : ∃ q, Qah l c v = some q ∧ Qat l c v = some q := by
 obtain ⟨m, m1, m2⟩ := Qj7 l (by omega)
 obtain ⟨c', c1, c2, c3, c4⟩ := QzS c
 unfold Qah Qat Qe Qb
 simp only [m1, m2, Option.bind_some]
 by_cases h0 : ln l = 0
 ·rw [decide_eq_true h0]; exact ⟨0, rfl, rfl⟩
 ·rw [decide_eq_false h0]
  have hpos : 0 < ln l := by rw [Vj] at h0 ⊢; omega
  cases m with
  | false => exact ⟨0, rfl, rfl⟩
  | true =>
   cases hv : (decide (0 ≤ v) && decide (v ≤ 1000)) with
   | false => exact ⟨0, rfl, rfl⟩
   | true =>
    simp only [Bool.and_eq_true, decide_eq_true_eq] at hv
    have hb := Int.tmod_lt_of_pos c' hpos
    have hn := Int.tmod_nonneg (ln l) c3
    have hle : ln l ≤ 1048576 := by rw [Vj]; omega
    have hmod : QdT c' (ln l) = some (c'.tmod (ln l)) := by
     unfold QdT Qe
     simp only [Option.bind_some, show (decide (1 ≤ ln l) && decide (ln l ≤ 1000000000000)) = true from by rw [decide_eq_true (show 1 ≤ ln l by omega), decide_eq_true (show ln l ≤ 1000000000000 by omega)]; rfl, Bool.not_true, cond_false, decide_eq_false h0, Bool.not_false, Qa]
     rw [Q9 (by omega) (by omega), Int.tmod_eq_emod_of_nonneg (show 0 ≤ c'.tmod (ln l) + ln l by omega), Int.add_emod_right, Int.emod_eq_of_lt hn hb]
    have hin : inb l ((w64 (c'.tmod (ln l) + v)).tmod (ln l)) = true := by
     rw [Q9 (by omega) (by omega), QfB]
     exact ⟨Int.tmod_nonneg _ (by omega), by have := Int.tmod_lt_of_pos (c'.tmod (ln l) + v) hpos; rw [Vj] at this; exact this⟩
    simp only [c1, c2, hmod, Option.bind_some, cond_false, Bool.not_true, Bool.not_false, Qa, hin]
    exact ⟨_, rfl, rfl⟩
theorem Qre (l : List Mark) (x : Trial) (hl : l.length ≤ 1048576) : ∃ q, ZJ l x = some q ∧ ZS l x = some q := by
 obtain ⟨s, s1, s2⟩ := Qgl l x hl
 obtain ⟨q, q1, q2⟩ := QsZ l x.Claim x.Asked hl
 unfold ZJ ZS
 simp only [s1, s2, q1, q2, Option.bind_some]
 cases decide (s = 0) <;> exact ⟨_, rfl, rfl⟩
theorem Qy6 (l : List Mark) (q : Int) (hl : l.length ≤ 1048576) : ∃ a, QcR l q = some a ∧ QcV l q = some a := by
 have hs := XD l (fun x => decide (x.Question = q)) (fun i => (gt l (i : Int)).Answer) (step := Zc l q)
  (fun i hi => by
   simp only [Zc, Qo hi, Qd hi, Qp hi, QF (show (i : Int) < 9223372036854775807 by omega), cond_true, Qa]
   cases decide (l[i].Question = q) <;> rfl)
  (by simp only [Zc, Qu (Nat.le_refl _), cond_false])
 have hi := XD l (fun x => decide (x.Question = q)) (fun i => (gt l (i : Int)).Answer) (step := JY q l (ln l))
  (fun i hi => by
   simp only [JY, Qo hi, Qd hi, Qp hi, QF (show (i : Int) < 9223372036854775807 by omega), cond_true, Qa]
   cases decide (l[i].Question = q) <;> rfl)
  (by simp only [JY, Qu (Nat.le_refl _), cond_false])
 unfold QcR QcV
 rw [hs, hi]
 cases l.findIdx? (fun x => decide (x.Question = q)) <;> exact ⟨_, rfl, rfl⟩
theorem Qua (l : List Mark) (x : Trial) (a : Int) (hl : l.length ≤ 1048576) : ∃ r, Qa0 l x a = some r ∧ Qa4 l x a = some r := by
 obtain ⟨q, q1, q2⟩ := Qre l x hl
 obtain ⟨b, b1, b2⟩ := Qy6 l q hl
 unfold Qa0 Qa4
 simp only [q1, q2, b1, b2, Option.bind_some]
 cases decide (q = 0) <;> cases decide (b = a) <;> exact ⟨_, rfl, rfl⟩
theorem Qt9 (h : House) (id a : Int) (hm : Qm h) : ∃ r, Qbe h id a = some r ∧ Qa7 h id a = some r ∧ Qm r.1 := by
 have hm7 := hm
 obtain ⟨m1, m2, m3, m4, m5, m6, m7⟩ := hm7
 unfold Qbe Qa7
 simp only [Qck h hm, XN h hm, (Qdl h.Claims id m4).1, (Qdl h.Claims id m4).2, (Xh h hm).1, (Xh h hm).2, Option.bind_some]
 rcases Qgp h.Claims id with hx | ⟨k, hk, hx, hid⟩
 ·rw [hx]
  refine ⟨(h, false), rfl, ?_, hm⟩
  cases XC h <;> rfl
 ·rw [hx, decide_eq_false (show ¬ (k : Int) < 0 by omega)]
  cases hb : XC h with
  | false => exact ⟨(h, false), rfl, rfl, hm⟩
  | true =>
   have ho := QhZ h hm hb
   simp only [cond_false, Bool.not_true, Qd hk, Qp hk, Qa, Option.bind_some]
   by_cases h0 : h.Claims[k].State = 0
   ·have hkt : k < h.Trials.length := by rw [QiP h ho.trials]; exact hk
    obtain ⟨m, k1, k2, k3⟩ := Qq2 h.Secrets h.Claims[k].Thing m2.1 (fun x hx => m2.2 x hx)
    obtain ⟨g, g1, g2⟩ := Qua m h.Trials[k] a k3
    obtain ⟨s, s1, s2⟩ := Qgl m g.1 k3
    have hl1 : (h.Trials.set k g.1).length ≤ 1048576 := by rw [List.length_set]; exact m5
    have hl2 : ∀ s : Int, (h.Claims.set k ⟨h.Claims[k].Id, h.Claims[k].Who, h.Claims[k].Thing, h.Claims[k].At, s⟩).length ≤ 1048576 := fun s => by rw [List.length_set]; exact m4
    have w1 : Qm ⟨h.No, h.Finds, h.Secrets, h.Slots, h.Claims.set k ⟨h.Claims[k].Id, h.Claims[k].Who, h.Claims[k].Thing, h.Claims[k].At, 1⟩, h.Trials.set k g.1, h.Chain, h.Book, h.Now⟩ := smH hm m1 m2 m3 (hl2 1) hl1 m6 m7
    have w2 : Qm ⟨h.No, h.Finds, h.Secrets, h.Slots, h.Claims.set k ⟨h.Claims[k].Id, h.Claims[k].Who, h.Claims[k].Thing, h.Claims[k].At, 2⟩, h.Trials.set k g.1, h.Chain, h.Book, h.Now⟩ := smH hm m1 m2 m3 (hl2 2) hl1 m6 m7
    have w3 : Qm ⟨h.No, h.Finds, h.Secrets, h.Slots, h.Claims, h.Trials.set k g.1, h.Chain, h.Book, h.Now⟩ := smH hm m1 m2 m3 m4 hl1 m6 m7
    simp only [h0, decide_true, Bool.not_true, cond_false, k1, k2, g1, g2, s1, s2, Qd hkt, Qp hkt, Qa, Option.bind_some, Int.toNat_natCast,
     QiJ h.Claims id 1 k hk hx h0 (.inl rfl) m4 ho.cS ho.cI, QiJ h.Claims id 2 k hk hx h0 (.inr rfl) m4 ho.cS ho.cI, QdC h _ _ hm w1, QdC h _ _ hm w2, QdC h _ _ hm w3,
     Qbv h _ _ hm w1 (show [g.2].length ≤ 1048576 by simp), Qbv h _ _ hm w2 (show [g.2].length ≤ 1048576 by simp), Qbv h _ _ hm w3 (show [g.2].length ≤ 1048576 by simp), List.all_cons, List.all_nil, Bool.and_true, id_eq]
    cases decide (s = 1) with
    | true => exact ⟨_, rfl, rfl, Qal _ _ _ hm w1⟩
    | false => cases decide (s = 2) with
     | true => exact ⟨_, rfl, rfl, Qal _ _ _ hm w2⟩
     | false => exact ⟨_, rfl, rfl, Qal _ _ _ hm w3⟩
   ·simp only [decide_eq_false h0, Bool.not_false, cond_true]
    exact ⟨(h, false), rfl, rfl, hm⟩
end Go.Proofs.YtcdffihcfeajfaaGreat
namespace Go.Proofs.YtcdffihcfeajfaaGreat
open Go
set_option linter.unusedVariables false
set_option linter.unusedSimpArgs false
theorem QxP (l : List Claim) (id s : Int) (hl : l.length ≤ 1048576) : ∃ r, QcP l id s = some r ∧ X0 l id s = some r ∧ r.1.length = l.length := by
 obtain ⟨c, c1, c2, c3⟩ := QfY l hl
 unfold QcP X0 Vk
 have hrm : rm (0 + l.length) 40 = true := VA (by omega) (by omega)
 simp only [hrm, Qa, (Qdl l id hl).1, (Qdl l id hl).2, c1, c2, Option.bind_some]
 rcases Qgp l id with h | ⟨k, hk, h, hid⟩
 ·rw [h]; exact ⟨(l, false), rfl, rfl, rfl⟩
 ·rw [h, decide_eq_false (show ¬ (k : Int) < 0 by omega)]
  cases c with
  | false => exact ⟨(l, false), rfl, rfl, rfl⟩
  | true =>
   obtain ⟨d, d1, d2, d3⟩ := QfY (l.set k ⟨l[k].Id, l[k].Who, l[k].Thing, l[k].At, s⟩) (by rw [List.length_set]; omega)
   simp only [cond_false, Option.bind_some, Bool.not_true, Qd hk, Qp hk, Qa, Int.toNat_natCast, d1, d2]
   have hset := List.length_set (as := l) (i := k) (a := (⟨l[k].Id, l[k].Who, l[k].Thing, l[k].At, s⟩ : Claim))
   cases decide (l[k].State = 0) <;> cases decide (s = 1) <;> cases decide (s = 2) <;> cases decide (l[k].State = 1) <;> cases decide (s = 3) <;> cases d <;> first | exact ⟨(l, false), rfl, rfl, rfl⟩ | exact ⟨(l.set k ⟨l[k].Id, l[k].Who, l[k].Thing, l[k].At, s⟩, true), rfl, rfl, hset⟩
end Go.Proofs.YtcdffihcfeajfaaGreat
