import Derived.Test.YtponohekgnklkaaGreatPz3
import Derived.Test.YtponohekgnklkaaGreatPz2
namespace Go.Proofs.YtponohekgnklkaaGreat
open Go
set_option linter.unusedVariables false
set_option linter.unusedSimpArgs false
theorem QuL {n : Nat} (p : Nat → Bool) {step : Int → Option (Int ⊕ Int)} (h1 : ∀ i, i < n → step (i : Int) = some (bif p i then .inl ((i + 1 : Nat) : Int) else .inr (i : Int))) (h2 : step (n : Int) = some (.inr (n : Int))) : ∃ k : Nat, k ≤ n ∧ run step 0 = some (k : Int) := by
 have key : ∀ (m i : Nat), i + m = n → ∃ k : Nat, k ≤ n ∧ run step (i : Int) = some (k : Int) := by
  intro m
  induction m with
  | zero =>
   intro i hi
   have : i = n := by omega
   subst this
   exact ⟨i, Nat.le_refl _, by rw [Qi, h2]; rfl⟩
  | succ m ih =>
   intro i hi
   cases hp : p i with
   | false => exact ⟨i, by omega, by rw [Qi, h1 i (by omega), hp]; rfl⟩
   | true =>
    obtain ⟨k, k1, k2⟩ := ih (i + 1) (by omega)
    exact ⟨k, k1, by rw [Qi, h1 i (by omega), hp]; exact k2⟩
 exact key n 0 (by omega)
theorem Qea {α : Type} (l : List α) (k : Nat) : cut l (k : Int) (ln l) = l.drop k := by
 unfold cut ln
 simp
theorem Qi4 {k n : Nat} (h : k ≤ n) : slB (k : Int) (n : Int) (n : Int) = true := by unfold slB; simp; omega
theorem QjE {α : Type} (l : List α) (k : Nat) (x : α) : (cut l 0 (k : Int) ++ [x]) ++ cut l (k : Int) (ln l) = Vc l (k : Int) [x] := by
 rw [XI, Qea]; simp [Vc]
theorem QeY {α : Type} (l : List α) (k : Nat) (hk : k ≤ l.length) (x : α) : (Vc l (k : Int) [x]).length = l.length + 1 := by
 simp [Vc]; omega
theorem QlS {α : Type} (l : List α) (k : Nat) (hk : k ≤ l.length) (x : α) (b : Nat) (hl : l.length ≤ 1048576) (hb : b ≤ 1024) : QdH l (k : Int) [x] b = true := by
 unfold QdH
 have : (l.length + 1) * b ≤ 1048577 * 1024 := Nat.mul_le_mul (by omega) hb
 simp; omega
theorem Qr1 {α : Type} (l : List α) (k : Nat) (hk : k ≤ l.length) (x : α) : (Vc l (k : Int) [x])[k]? = some x := by
 simp [Vc, List.getElem?_append, Nat.min_eq_left hk]
theorem Qte {α : Type} (l : List α) (k : Nat) (hk : k ≤ l.length) (x : α) (j : Nat) (hj : j < l.length) : (Vc l (k : Int) [x])[if j < k then j else j + 1]? = some l[j] := by
 by_cases h : j < k
 ·rw [if_pos h]; simp [Vc, List.getElem?_append, Nat.min_eq_left hk, h]
 ·rw [if_neg h]
  simp only [Vc, Int.toNat_natCast, List.singleton_append]
  rw [List.getElem?_append_right (by simp; omega)]
  simp only [List.length_take, Nat.min_eq_left hk]
  rw [show j + 1 - k = (j - k) + 1 by omega, List.getElem?_cons_succ, List.getElem?_drop, show k + (j - k) = j by omega, List.getElem?_eq_getElem hj]
theorem Qpx {α : Type} [Inhabited α] (key : α → Int) (l : List α) (k : Nat) (hk : k ≤ l.length) (x : α) (up : ∀ i (hi : i < (Vc l (k : Int) [x]).length) (h0 : 0 < i), key ((Vc l (k : Int) [x])[i - 1]'(by omega)) < key (Vc l (k : Int) [x])[i]) (j : Nat) (hj : j < l.length) (he : key l[j] = key x) : False := by
 have hlen := QeY l k hk x
 have hu := QuE (n := (Vc l (k : Int) [x]).length) (fun i => key (gt (Vc l (k : Int) [x]) (i : Int))) (fun i h1 h2 => by
  show key (gt (Vc l (k : Int) [x]) ((i - 1 : Nat) : Int)) < key (gt (Vc l (k : Int) [x]) (i : Int))
  rw [Qw h1, Qw (show i - 1 < (Vc l (k : Int) [x]).length by omega)]; exact up i h1 h2)
 have g1 : gt (Vc l (k : Int) [x]) (k : Int) = x := by
  have hlt : k < (Vc l (k : Int) [x]).length := by omega
  rw [Qw hlt]
  have := Qr1 l k hk x
  rw [List.getElem?_eq_getElem hlt] at this
  exact Option.some.inj this
 have hidx : (if j < k then j else j + 1) < (Vc l (k : Int) [x]).length := by split <;> omega
 have g2 : gt (Vc l (k : Int) [x]) ((if j < k then j else j + 1 : Nat) : Int) = l[j] := by
  rw [Qw hidx]
  have := Qte l k hk x j hj
  rw [List.getElem?_eq_getElem hidx] at this
  exact Option.some.inj this
 by_cases h : j < k
 ·have := hu k (if j < k then j else j + 1) (by rw [if_pos h]; exact h) (by omega)
  simp only [g1, g2] at this; omega
 ·have := hu (if j < k then j else j + 1) k (by rw [if_neg h]; omega) hidx
  simp only [g1, g2] at this; omega
end Go.Proofs.YtponohekgnklkaaGreat
namespace Go.Proofs.YtponohekgnklkaaGreat
open Go
set_option linter.unusedVariables false
set_option linter.unusedSimpArgs false
theorem Qsu (l : List Find) (id : Int) : Zu l id = -1 ∨ ∃ k : Nat, ∃ hk : k < l.length, Zu l id = (k : Int) ∧ l[k].Thing.Id = id := by
 unfold Zu
 cases hf : l.findIdx? (fun x => decide (x.Thing.Id = id)) with
 | none => exact .inl rfl
 | some i =>
  obtain ⟨hi, hp⟩ := QbT hf
  exact .inr ⟨i, hi, rfl, by simpa using hp⟩
theorem QC3 (l : List Find) (f : Find) (hl : l.length ≤ 1048576) : ∃ r, QbL l f = some r ∧ QcZ l f = some r ∧ r.1.length ≤ 1048576 := by
 obtain ⟨k, hk, hr⟩ := QuL (n := l.length) (fun i => decide ((gt l (i : Int)).Thing.Id < f.Thing.Id)) (step := ZF l f)
  (fun i hi => by
   simp only [ZF, Qx hi, Qg hi, QL (show (i : Int) < 9223372036854775807 by omega), cond_true, Qa, Option.bind_some]
   cases decide ((gt l (i : Int)).Thing.Id < f.Thing.Id) <;> rfl)
  (by simp only [ZF, QI (Nat.le_refl _), cond_false]; rfl)
 have hr2 : run (Qcw l f l) 0 = some (k : Int) := hr
 have hlen := QeY l k hk f
 obtain ⟨b, b1, b2, b3⟩ := QoG (Vc l (k : Int) [f]) (by omega)
 have hrm : rm (0 + l.length) 64 = true := Vy (by omega) (by omega)
 have hrm1 : rm (0 + (cut l 0 (k : Int)).length) 64 = true := Vy (by rw [XI, List.length_take]; omega) (by omega)
 have hrm2 : rm ((cut l 0 (k : Int)).length + 1) 64 = true := Vy (by rw [XI, List.length_take]; omega) (by omega)
 have hrm3 : rm ((cut l 0 (k : Int)).length + 1 + (cut l (k : Int) (ln l)).length) 64 = true := Vy (by rw [XI, Qea, List.length_take, List.length_drop]; omega) (by omega)
 have hs : QbL l f = some (bif b then (Vc l (k : Int) [f], true) else (l, false)) := by
  unfold QbL
  simp only [hr, Q5, QeZ hk, Qi4 hk, Option.bind_some, Qa]
  rw [← Q5]
  simp only [hrm1, hrm2, hrm3, hrm, QjE, b1, Qa, Option.bind_some]
  cases b <;> rfl
 refine ⟨_, hs, ?_, ?_⟩
 ·unfold QcZ XU
  simp only [hrm, Qa, Option.bind_some, (Jw l f.Thing.Id hl).2, hr2, QlS l k hk f 64 hl (by omega), b2]
  rcases Qsu l f.Thing.Id with h | ⟨j, hj, h, hid⟩
  ·rw [h]; cases b <;> rfl
  ·rw [h, decide_eq_true (show (0 : Int) ≤ (j : Int) by omega)]
   cases b with
   | false => rfl
   | true => exact absurd (Qpx (fun x : Find => x.Thing.Id) l k hk f (b3 rfl).2.2 j hj hid) id
 ·cases b with
  | false => exact hl
  | true => have := (b3 rfl).1; show (Vc l (k : Int) [f]).length ≤ _; omega
theorem Qzc (l : List Secret) (t : Int) (hl : l.length ≤ 1048576) : JX l t = some (-1) ∨ ∃ k : Nat, ∃ hk : k < l.length, JX l t = some (k : Int) ∧ l[k].Thing = t := by
 have hi := XQ l (fun x => decide (x.Thing = t)) (fun i => (i : Int)) (step := Qm l t (ln l))
  (fun i hi => by
   simp only [Qm, Qa8, Option.bind_some, Qx hi, Qg hi, Qw hi, QL (show (i : Int) < 9223372036854775807 by omega), cond_true, Qa]
   cases decide (l[i].Thing = t) <;> rfl)
  (by simp only [Qm, QI (Nat.le_refl _), cond_false])
 unfold JX QZ
 rw [hi]
 cases hf : l.findIdx? (fun x => decide (x.Thing = t)) with
 | none => exact .inl rfl
 | some i =>
  obtain ⟨hi', hp⟩ := QbT hf
  exact .inr ⟨i, hi', rfl, by simpa using hp⟩
theorem QwE {α : Type} {sm : α → Prop} {l : List α} (h : smL sm l) (k : Nat) : smL sm (l.take k) := ⟨by have := h.1; rw [List.length_take]; omega, fun x hx => h.2 x (List.mem_of_mem_take hx)⟩
theorem Qx7 {α : Type} {sm : α → Prop} {l : List α} (h : smL sm l) (k : Nat) : smL sm (l.drop k) := ⟨by have := h.1; rw [List.length_drop]; omega, fun x hx => h.2 x (List.mem_of_mem_drop hx)⟩
theorem Qve (l : List Secret) (x : Secret) (hm : smL QcL l) (hx : x.Marks.length ≤ 1048576) : ∃ r, Qav l x = some r ∧ QbB l x = some r ∧ smL QcL r.1 := by
 have hl := hm.1
 obtain ⟨k, hk, hr⟩ := QuL (n := l.length) (fun i => decide ((gt l (i : Int)).Thing < x.Thing)) (step := Jz l x)
  (fun i hi => by
   simp only [Jz, Qx hi, Qg hi, QL (show (i : Int) < 9223372036854775807 by omega), cond_true, Qa, Option.bind_some]
   cases decide ((gt l (i : Int)).Thing < x.Thing) <;> rfl)
  (by simp only [Jz, QI (Nat.le_refl _), cond_false]; rfl)
 have hr2 : run (Qbq l x l) 0 = some (k : Int) := hr
 have hlen := QeY l k hk x
 have hmem : ∀ y ∈ Vc l (k : Int) [x], QcL y := by
  intro y hy
  simp only [Vc, Int.toNat_natCast, List.singleton_append, List.mem_append, List.mem_cons] at hy
  rcases hy with h | h | h
  ·exact hm.2 y (List.mem_of_mem_take h)
  ·subst h; exact hx
  ·exact hm.2 y (List.mem_of_mem_drop h)
 obtain ⟨b, b1, b2, b3⟩ := Qle (Vc l (k : Int) [x]) (by omega) hmem
 have hrm1 : rm ((cut l 0 (k : Int)).length + [x].length) 40 = true := Vy (by rw [XI, List.length_take]; simp; omega) (by omega)
 have hrm3 : rm ((cut l 0 (k : Int)).length + [x].length + (cut l (k : Int) (ln l)).length) 40 = true := Vy (by rw [XI, Qea, List.length_take, List.length_drop]; simp; omega) (by omega)
 have c1 : Xp (cut l 0 (k : Int)) = some (cut l 0 (k : Int)) := by rw [XI]; exact QjP _ (QwE hm k)
 have c2 : Xp (cut l (k : Int) (ln l)) = some (cut l (k : Int) (ln l)) := by rw [Qea]; exact QjP _ (Qx7 hm k)
 have c3 : Xp [x] = some [x] := QjP _ ⟨by simp, fun y hy => by simp at hy; subst hy; exact hx⟩
 have hs : Qav l x = some (bif b then (Vc l (k : Int) [x], true) else (l, false)) := by
  unfold Qav
  simp only [hr, Option.bind_some]
  rw [show slB 0 (k : Int) (ln l) = true from QeZ hk, show slB (k : Int) (ln l) (ln l) = true from Qi4 hk]
  simp only [Qa, c1, c2, c3, hrm1, hrm3, QjE, b1, QjP l hm, Option.bind_some]
  cases b <;> rfl
 refine ⟨_, hs, ?_, ?_⟩
 ·unfold QbB VM
  simp only [Qi6 l hm, Option.bind_some, hr2, Vy (show 0 + x.Marks.length ≤ 2000000 by omega) (show 16 ≤ 1024 by omega), Qa, show (⟨x.Thing, x.Marks, x.Salt⟩ : Secret) = x from rfl, QlS l k hk x 40 hl (by omega), b2]
  rcases Qzc l x.Thing hl with h | ⟨j, hj, h, hid⟩
  ·rw [h]; cases b <;> rfl
  ·rw [h]
   simp only [Option.bind_some, decide_eq_true (show (0 : Int) ≤ (j : Int) by omega)]
   cases b with
   | false => rfl
   | true => exact absurd (Qpx (fun x : Secret => x.Thing) l k hk x (b3 rfl).2 j hj hid) id
 ·cases b with
  | false => exact hm
  | true => exact ⟨by have := (b3 rfl).1; show (Vc l (k : Int) [x]).length ≤ _; omega, hmem⟩
theorem QzM (l : List Slot) (x : Thing) (hl : l.length ≤ 1048576) : ∃ r, Qb1 l x = some r ∧ QbO l x = some r ∧ r.1.length = l.length ∧ (r.2 = true → 1 ≤ x.Id ∧ ∃ y ∈ r.1, y.Thing = x.Id) := by
 obtain ⟨c, c1, c2, c3⟩ := QkJ l hl
 obtain ⟨t, t1, t2, t3⟩ := Qjx x
 have hrm : rm (0 + l.length) 24 = true := Vy (by omega) (by omega)
 obtain ⟨v, hv, hq⟩ := QlZ (n := l.length) (step := Vb l x.Size) (fin := fun v => v) (fun i v => v = -1 ∨ ∃ j : Nat, j < i ∧ j < l.length ∧ v = (j : Int))
  (fun i v hi hv => by
   have hw := QL (show (i : Int) < 9223372036854775807 by omega)
   have hcase : Vb l x.Size (v, (i : Int)) = some (.inl ((i : Int), ((i + 1 : Nat) : Int))) ∨ Vb l x.Size (v, (i : Int)) = some (.inl (v, ((i + 1 : Nat) : Int))) := by
    rcases hv with rfl | ⟨j, hj, hjl, rfl⟩
    ·simp only [Vb, Qx hi, Qg hi, Qw hi, hw, cond_true, Qa, show decide ((-1 : Int) < 0) = true from rfl]
     cases decide (l[i].Thing = 0) <;> cases decide (x.Size ≤ l[i].Size) <;> first | exact .inl rfl | exact .inr rfl
    ·simp only [Vb, Qx hi, Qg hi, Qw hi, Qg hjl, Qw hjl, hw, cond_true, cond_false, Qa, decide_eq_false (show ¬ (j : Int) < 0 by omega)]
     cases decide (l[i].Thing = 0) <;> cases decide (x.Size ≤ l[i].Size) <;> cases decide (l[i].Size < l[j].Size) <;> first | exact .inl rfl | exact .inr rfl
   rcases hcase with h | h
   ·exact ⟨_, h, .inr ⟨i, by omega, hi, rfl⟩⟩
   ·refine ⟨_, h, ?_⟩
    rcases hv with h' | ⟨j, hj, hjl, h'⟩
    ·exact .inl h'
    ·exact .inr ⟨j, by omega, hjl, h'⟩)
  (fun v _ => by simp only [Vb, QI (Nat.le_refl _), cond_false]) (-1) (.inl rfl)
 have hf : Qc5 l x.Size = some v := by
  unfold Qc5
  rw [show QaX l x.Size l (ln l) = Vb l x.Size from by funext ⟨k, i⟩; simp only [QaX, Vb]; cases decide (i < ln l) <;> cases inb l i <;> rfl, hv]; rfl
 have hsf : ZR l x.Size = some (bif decide (v < 0) then 0 else (gt l v).Id) := by
  unfold ZR
  rw [hv]
  rcases hq with rfl | ⟨j, _, hjl, rfl⟩
  ·rfl
  ·simp only [Option.bind_some, decide_eq_false (show ¬ (j : Int) < 0 by omega), cond_false, Qg hjl, Qa]
 unfold Qb1 QbO Xd
 simp only [hrm, Qa, c1, c2, t1, t2, hf, hsf, QlG l x.Id hl, QgP l x.Id hl, Option.bind_some]
 cases c with
 | false => exact ⟨(l, false), rfl, rfl, rfl, fun h => by cases h⟩
 | true =>
  obtain ⟨s1, s2, s3⟩ := c3 rfl
  cases t with
  | false => exact ⟨(l, false), rfl, rfl, rfl, fun h => by cases h⟩
  | true =>
   rcases hq with rfl | ⟨k, _, hk, rfl⟩
   ·exact ⟨(l, false), rfl, rfl, rfl, fun h => by cases h⟩
   ·have hid : 1 ≤ l[k].Id := s2 _ (List.getElem_mem hk)
    have hsame : (!decide ((bif decide (x.Id = 0) || decide (QaR l x.Id < 0) then (0 : Int) else (gt l (QaR l x.Id)).Id) = 0)) = decide (0 ≤ (bif decide (x.Id = 0) then (-1 : Int) else QaR l x.Id)) := by
     cases decide (x.Id = 0) with
     | true => rfl
     | false =>
      rcases Qei l x.Id with ⟨_, h2⟩ | ⟨j, hj, h2, _, _⟩
      ·rw [h2]; rfl
      ·rw [h2]
       have := s2 _ (List.getElem_mem hj)
       simp only [Bool.false_or, decide_eq_false (show ¬ (j : Int) < 0 by omega), cond_false, Qw hj, decide_eq_false (show ¬ l[j].Id = 0 by omega), decide_eq_true (show (0 : Int) ≤ (j : Int) by omega)]; rfl
    simp only [Bool.not_true, cond_false, decide_eq_false (show ¬ (k : Int) < 0 by omega), Qw hk, Qg hk, Qa, decide_eq_false (show ¬ l[k].Id = 0 by omega), Int.toNat_natCast, Option.bind_some, hsame]
    cases decide (0 ≤ (bif decide (x.Id = 0) then (-1 : Int) else QaR l x.Id)) with
    | true => exact ⟨(l, false), rfl, rfl, rfl, fun h => by cases h⟩
    | false =>
     have hr := XF (step := Xt x l[k].Id) (fun i => (if i ≤ k then l else l.set k ⟨l[k].Id, l[k].Size, x.Id⟩, (i : Int))) (r := l.set k ⟨l[k].Id, l[k].Size, x.Id⟩) l.length (fun i hi => by
       have hw := QL (show (i : Int) < 9223372036854775807 by omega)
       by_cases hik : i < k
       ·have hne : ¬ l[i].Id = l[k].Id := fun e => by have := QfG l s3 i k hi hk e; omega
        simp only [Xt, if_pos (show i ≤ k by omega), if_pos (show i + 1 ≤ k by omega), Qx hi, Qg hi, Qw hi, hw, decide_eq_false hne, cond_true, cond_false, Qa]
       ·by_cases hek : i = k
        ·subst hek
         simp only [Xt, if_pos (Nat.le_refl i), if_neg (show ¬ i + 1 ≤ i by omega), Qx hi, Qg hi, Qw hi, hw, decide_true, cond_true, Qa, Int.toNat_natCast]
        ·have hne : ¬ l[i].Id = l[k].Id := fun e => by have := QfG l s3 i k hi hk e; omega
         have hi' : i < (l.set k ⟨l[k].Id, l[k].Size, x.Id⟩).length := by rw [List.length_set]; exact hi
         have hg : gt (l.set k ⟨l[k].Id, l[k].Size, x.Id⟩) (i : Int) = l[i] := by rw [QpH l k _ i hi, if_neg hek, Qw hi]
         simp only [Xt, if_neg (show ¬ i ≤ k by omega), if_neg (show ¬ i + 1 ≤ k by omega), Qx hi', Qg hi', hg, hw, decide_eq_false hne, cond_true, cond_false, Qa])
      (by
       simp only [Xt, if_neg (show ¬ l.length ≤ k by omega)]
       rw [show decide ((l.length : Int) < ln (l.set k ⟨l[k].Id, l[k].Size, x.Id⟩)) = false from decide_eq_false (by rw [Q5, List.length_set]; omega)]
       rfl)
     simp only [cond_false, show run (Xt x l[k].Id) (l, 0) = some (l.set k ⟨l[k].Id, l[k].Size, x.Id⟩) from hr, Option.bind_some]
     exact ⟨_, rfl, rfl, List.length_set, fun _ => ⟨t3 rfl, _, List.mem_iff_getElem.2 ⟨k, by simpa using hk, List.getElem_set_self (by simpa using hk)⟩, rfl⟩⟩
theorem QCu (l : List Slot) (x : Thing) (hl : l.length ≤ 1048576) : ∃ r, Qb1 l x = some r ∧ QbO l x = some r ∧ r.1.length = l.length := by
 obtain ⟨r, r1, r2, r3, _⟩ := QzM l x hl
 exact ⟨r, r1, r2, r3⟩
theorem QpZ (h : House) (f : Find) (m : List Mark) (s : Int) (hm : Qh h) (hk : m.length ≤ 1048576) : ∃ r, J4 h f m s = some r ∧ Qcn h f m s = some r ∧ Qh r.1 := by
 have hm7 := hm
 obtain ⟨m1, m2, m3, m4, m5, m6, m7⟩ := hm7
 obtain ⟨a, a1, a2, a3⟩ := QC3 h.Finds f m1
 obtain ⟨b, b1, b2, b3⟩ := Qve h.Secrets ⟨f.Thing.Id, m, s⟩ m2 hk
 obtain ⟨c, c1, c2, c3⟩ := QCu h.Slots f.Thing m3
 obtain ⟨d, d1, d2, d3⟩ := Qui h.Chain ⟨f.Thing.Id, 2, h.No, h.Now, 0⟩ m6
 have w : Qh ⟨h.No, a.1, b.1, c.1, h.Claims, h.Trials, d.1, h.Book, h.Now⟩ := ⟨a3, b3, by show c.1.length ≤ _; omega, m4, m5, d3, m7⟩
 refine ⟨Qcf h ⟨h.No, a.1, b.1, c.1, h.Claims, h.Trials, d.1, h.Book, h.Now⟩ (a.2 && (b.2 && (c.2 && d.2))), ?_, ?_, Qam _ _ _ hm w⟩
 ·unfold J4
  simp only [XL h hm, a1, b1, c1, d1, QcU h _ _ hm w, Option.bind_some]
  cases a.2 <;> cases b.2 <;> cases c.2 <;> rfl
 ·unfold Qcn
  simp only [X9 h hm, a2, b2, c2, d2, Qbt h _ _ hm w (show [a.2, b.2, c.2, d.2].length ≤ 1048576 by simp), Option.bind_some, List.all_cons, List.all_nil, Bool.and_true, id_eq]
end Go.Proofs.YtponohekgnklkaaGreat
namespace Go.Proofs.YtponohekgnklkaaGreat
open Go
set_option linter.unusedVariables false
set_option linter.unusedSimpArgs false
theorem Qha (l : List Claim) (hl : l.length ≤ 2097152) (h : Q1 l = some true) : ∀ i (hi : i < l.length) (h0 : 0 < i), (l[i - 1]'(by omega)).Id < l[i].Id := by
 intro i hi h0
 have ho := (QfC l h hl).2 i hi
 unfold Qdz at ho
 simp only [Bool.and_eq_true, Bool.or_eq_true, Qw hi, Qw (show i - 1 < l.length by omega)] at ho
 have := ho.2.2.2.2.2.1
 simp at this
 omega
theorem QxI {α : Type} [Inhabited α] (key : α → Int) (l : List α) (k : Nat) (hk : k ≤ l.length) (x : α) (up : ∀ i (hi : i < (Vc l (k : Int) [x]).length) (h0 : 0 < i), key ((Vc l (k : Int) [x])[i - 1]'(by omega)) < key (Vc l (k : Int) [x])[i]) (j : Nat) (hj : j < l.length) : if j < k then key l[j] < key x else key x < key l[j] := by
 have hlen := QeY l k hk x
 have hu := QuE (n := (Vc l (k : Int) [x]).length) (fun i => key (gt (Vc l (k : Int) [x]) (i : Int))) (fun i h1 h2 => by
  show key (gt (Vc l (k : Int) [x]) ((i - 1 : Nat) : Int)) < key (gt (Vc l (k : Int) [x]) (i : Int))
  rw [Qw h1, Qw (show i - 1 < (Vc l (k : Int) [x]).length by omega)]; exact up i h1 h2)
 have g1 : gt (Vc l (k : Int) [x]) (k : Int) = x := by
  have hlt : k < (Vc l (k : Int) [x]).length := by omega
  rw [Qw hlt]
  have := Qr1 l k hk x
  rw [List.getElem?_eq_getElem hlt] at this
  exact Option.some.inj this
 have hidx : (if j < k then j else j + 1) < (Vc l (k : Int) [x]).length := by split <;> omega
 have g2 : gt (Vc l (k : Int) [x]) ((if j < k then j else j + 1 : Nat) : Int) = l[j] := by
  rw [Qw hidx]
  have := Qte l k hk x j hj
  rw [List.getElem?_eq_getElem hidx] at this
  exact Option.some.inj this
 by_cases h : j < k
 ·have := hu k (if j < k then j else j + 1) (by rw [if_pos h]; exact h) (by omega)
  simp only [g1, g2] at this; rw [if_pos h]; exact this
 ·have := hu (if j < k then j else j + 1) k (by rw [if_neg h]; omega) hidx
  simp only [g1, g2] at this; rw [if_neg h]; exact this
theorem QA0 {α : Type} [Inhabited α] (key : α → Int) (l : List α) (k1 k2 : Nat) (h1 : k1 ≤ l.length) (h2 : k2 ≤ l.length) (x : α)
  (a1 : ∀ j (hj : j < l.length), k1 ≤ j → ¬ key l[j] < key x) (a2 : ∀ (h : 0 < k1), key (l[k1 - 1]'(by omega)) < key x)
  (b1 : ∀ j (hj : j < l.length), j < k2 → key l[j] < key x) (b2 : ∀ (h : k2 < l.length), ¬ key l[k2] < key x)
  (up : (∀ i (hi : i < (Vc l (k1 : Int) [x]).length) (h0 : 0 < i), key ((Vc l (k1 : Int) [x])[i - 1]'(by omega)) < key (Vc l (k1 : Int) [x])[i]) ∨ (∀ i (hi : i < (Vc l (k2 : Int) [x]).length) (h0 : 0 < i), key ((Vc l (k2 : Int) [x])[i - 1]'(by omega)) < key (Vc l (k2 : Int) [x])[i])) : k1 = k2 := by
 rcases up with up | up
 ·have hj := QxI key l k1 h1 x up
  by_cases h : k1 < k2
  ·exact absurd (b1 k1 (by omega) h) (a1 k1 (by omega) (Nat.le_refl _))
  ·by_cases h' : k2 < k1
   ·have := hj k2 (by omega)
    rw [if_pos h'] at this
    exact absurd this (b2 (by omega))
   ·omega
 ·have hj := QxI key l k2 h2 x up
  by_cases h : k1 < k2
  ·exact absurd (b1 k1 (by omega) h) (a1 k1 (by omega) (Nat.le_refl _))
  ·by_cases h' : k2 < k1
   ·have h3 := hj (k1 - 1) (by omega)
    rw [if_neg (by omega)] at h3
    have h4 := a2 (by omega)
    omega
   ·omega
theorem QoD {n : Nat} (p : Nat → Bool) {step : Int → Option (Int ⊕ Int)} (h1 : ∀ i, i < n → step (i : Int) = some (bif p i then .inl ((i + 1 : Nat) : Int) else .inr (i : Int))) (h2 : step (n : Int) = some (.inr (n : Int))) : ∃ k : Nat, k ≤ n ∧ run step 0 = some (k : Int) ∧ (∀ j, j < k → p j = true) ∧ (k < n → p k = false) := by
 have key : ∀ (m i : Nat), i + m = n → (∀ j, j < i → p j = true) → ∃ k : Nat, k ≤ n ∧ run step (i : Int) = some (k : Int) ∧ (∀ j, j < k → p j = true) ∧ (k < n → p k = false) := by
  intro m
  induction m with
  | zero =>
   intro i hi hp
   have : i = n := by omega
   subst this
   exact ⟨i, Nat.le_refl _, by rw [Qi, h2]; rfl, hp, fun h => by omega⟩
  | succ m ih =>
   intro i hi hp'
   cases hp : p i with
   | false => exact ⟨i, by omega, by rw [Qi, h1 i (by omega), hp]; rfl, hp', fun _ => hp⟩
   | true =>
    obtain ⟨k, k1, k2, k3⟩ := ih (i + 1) (by omega) (fun j hj => by
     by_cases hji : j = i
     ·subst hji; exact hp
     ·exact hp' j (by omega))
    exact ⟨k, k1, by rw [Qi, h1 i (by omega), hp]; exact k2, k3⟩
 exact key n 0 (by omega) (fun j hj => by omega)
def Qci (l : List Claim) (id : Int) : Nat → Nat
 | 0 => 0
 | n + 1 => bif decide ((gt l (n : Int)).Id < id) then n + 1 else Qci l id n
theorem Qoh (l : List Claim) (id : Int) : ∀ n, Qci l id n ≤ n
 | 0 => Nat.le_refl _
 | n + 1 => by
  have := Qoh l id n
  unfold Qci
  cases decide ((gt l (n : Int)).Id < id) <;> simp <;> omega
theorem QoB (l : List Claim) (id : Int) : ∀ n j, Qci l id n ≤ j → j < n → ¬ (gt l (j : Int)).Id < id
 | 0, j, _, h => by omega
 | n + 1, j, h1, h2 => by
  unfold Qci at h1
  cases hd : decide ((gt l (n : Int)).Id < id) with
  | true => rw [hd] at h1; simp at h1; omega
  | false =>
   rw [hd] at h1
   by_cases hj : j = n
   ·subst hj; exact of_decide_eq_false hd
   ·exact QoB l id n j h1 (by omega)
theorem Qow (l : List Claim) (id : Int) : ∀ n, 0 < Qci l id n → (gt l ((Qci l id n - 1 : Nat) : Int)).Id < id
 | 0, h => by simp [Qci] at h
 | n + 1, h => by
  unfold Qci at h ⊢
  cases hd : decide ((gt l (n : Int)).Id < id) with
  | true => simp only [cond_true, Nat.add_sub_cancel]; exact of_decide_eq_true hd
  | false => rw [hd] at h; exact Qow l id n h
theorem QyV (l : List Claim) (x : Claim) (hl : l.length ≤ 1048576) : ∃ r, Qbg l x = some r ∧ Qcr l x = some r ∧ r.1.length ≤ 1048576 ∧
  (r.2 = true → ∃ k : Nat, k ≤ l.length ∧ r.1 = Vc l (k : Int) [x] ∧ Zp r.1 x.Id = (k : Int) ∧ (∀ j (hj : j < l.length), j < k → l[j].Id < x.Id) ∧ (∀ j (hj : j < l.length), k ≤ j → ¬ l[j].Id < x.Id)) := by
 have hs := XF (step := X7 l x) (fun i => (((Qci l x.Id i : Nat) : Int), (!decide (x.State = 0)) || (l.take i).any (fun y => decide (y.Who = x.Who) && decide (y.Thing = x.Thing)), (i : Int)))
  (r := (((Qci l x.Id l.length : Nat) : Int), (!decide (x.State = 0)) || l.any (fun y => decide (y.Who = x.Who) && decide (y.Thing = x.Thing)))) l.length (fun i hi => by
   have hw := QL (show (i : Int) < 9223372036854775807 by omega)
   have hany : (l.take (i + 1)).any (fun y => decide (y.Who = x.Who) && decide (y.Thing = x.Thing)) = ((l.take i).any (fun y => decide (y.Who = x.Who) && decide (y.Thing = x.Thing)) || (decide (l[i].Who = x.Who) && decide (l[i].Thing = x.Thing))) := by
    rw [List.take_succ_eq_append_getElem hi, List.any_append]; simp
   have ha : Qci l x.Id (i + 1) = bif decide (l[i].Id < x.Id) then i + 1 else Qci l x.Id i := by
    rw [Qci, Qw hi]
   simp only [X7, Qx hi, Qg hi, Qw hi, hw, cond_true, Qa, hany, ha]
   generalize (l.take i).any (fun y => decide (y.Who = x.Who) && decide (y.Thing = x.Thing)) = q
   cases decide (x.State = 0) <;> cases q <;> cases (decide (l[i].Who = x.Who) && decide (l[i].Thing = x.Thing)) <;> cases decide (l[i].Id < x.Id) <;> rfl)
  (by simp only [X7, QI (Nat.le_refl _), cond_false, List.take_length])
 have hs' : run (X7 l x) (0, (!decide (x.State = 0)), 0) = some (((Qci l x.Id l.length : Nat) : Int), (!decide (x.State = 0)) || l.any (fun y => decide (y.Who = x.Who) && decide (y.Thing = x.Thing))) := by
  have : ((!decide (x.State = 0)) || (l.take 0).any (fun y => decide (y.Who = x.Who) && decide (y.Thing = x.Thing))) = !decide (x.State = 0) := by simp
  rw [this] at hs; exact hs
 have hk1 := Qoh l x.Id l.length
 have hhi := QoB l x.Id l.length
 have hlo := Qow l x.Id l.length
 generalize Qci l x.Id l.length = k1 at hs' hk1 hhi hlo
 obtain ⟨k2, hk2, hr, hf1, hf2⟩ := QoD (n := l.length) (fun i => decide ((gt l (i : Int)).Id < x.Id)) (step := Zd l x l)
  (fun i hi => by
   simp only [Zd, Qx hi, Qg hi, QL (show (i : Int) < 9223372036854775807 by omega), cond_true, Qa, Option.bind_some]
   cases decide ((gt l (i : Int)).Id < x.Id) <;> rfl)
  (by simp only [Zd, QI (Nat.le_refl _), cond_false]; rfl)
 have A1 : ∀ j (hj : j < l.length), k1 ≤ j → ¬ l[j].Id < x.Id := fun j hj h => by have := hhi j h hj; rw [Qw hj] at this; exact this
 have A2 : ∀ (h : 0 < k1), (l[k1 - 1]'(by omega)).Id < x.Id := fun h => by have := hlo h; rw [Qw (show k1 - 1 < l.length by omega)] at this; exact this
 have B1 : ∀ j (hj : j < l.length), j < k2 → l[j].Id < x.Id := fun j hj h => by have := hf1 j h; simp only [Qw hj, decide_eq_true_eq] at this; exact this
 have B2 : ∀ (h : k2 < l.length), ¬ l[k2].Id < x.Id := fun h => by have := hf2 h; simp only [Qw h, decide_eq_false_iff_not] at this; exact this
 have hl1 := QeY l k1 hk1 x
 have hl2 := QeY l k2 hk2 x
 obtain ⟨b, b1, b2, _⟩ := Qii (Vc l (k1 : Int) [x]) (by omega)
 obtain ⟨c, c1, c2, _⟩ := Qii (Vc l (k2 : Int) [x]) (by omega)
 have hone : b = true ∨ c = true → k1 = k2 := fun h => QA0 (fun y : Claim => y.Id) l k1 k2 hk1 hk2 x A1 A2 B1 B2 (by
  rcases h with rfl | rfl
  ·exact .inl (Qha _ (by omega) b1)
  ·exact .inr (Qha _ (by omega) c1))
 have hbc : b = c := by
  cases hb : b with
  | true =>
   have := hone (.inl hb)
   subst this
   rw [b1, hb] at c1; exact Option.some.inj c1
  | false => cases hc : c with
   | false => rfl
   | true =>
    have := hone (.inr hc)
    subst this
    rw [c1, hc] at b1; rw [hb] at b1; cases b1
 have hi := XQ l (fun y => decide (y.Who = x.Who) && decide (y.Thing = x.Thing)) (fun i => (i : Int)) (step := QD l x (ln l))
  (fun i hi => by
   simp only [QD, QcC, Qx hi, Qg hi, Qw hi, QL (show (i : Int) < 9223372036854775807 by omega), cond_true, Qa, Option.bind_some]
   cases (decide (l[i].Who = x.Who) && decide (l[i].Thing = x.Thing)) <;> rfl)
  (by simp only [QD, QI (Nat.le_refl _), cond_false])
 have hc : QW l x = some (l.any (fun y => decide (y.Who = x.Who) && decide (y.Thing = x.Thing))) := by
  unfold QW Vw
  rw [hi]
  cases hf : l.findIdx? (fun y => decide (y.Who = x.Who) && decide (y.Thing = x.Thing)) with
  | none =>
   have : l.any (fun y => decide (y.Who = x.Who) && decide (y.Thing = x.Thing)) = false := by
    rw [List.any_eq_false]
    intro y hy
    have := List.findIdx?_eq_none_iff.1 hf y hy
    simpa using this
   rw [this]; rfl
  | some i =>
   obtain ⟨hi', hp⟩ := QbT hf
   rw [List.any_eq_true.2 ⟨_, List.getElem_mem hi', hp⟩]
   simp only [Option.bind_some, evO, decide_eq_true (show (0 : Int) ≤ (i : Int) by omega)]
 have hrm : rm (0 + l.length) 40 = true := Vy (by omega) (by omega)
 have hrm1 : rm (0 + (cut l 0 (k1 : Int)).length) 40 = true := Vy (by rw [XI, List.length_take]; omega) (by omega)
 have hrm2 : rm ((cut l 0 (k1 : Int)).length + 1) 40 = true := Vy (by rw [XI, List.length_take]; omega) (by omega)
 have hrm3 : rm ((cut l 0 (k1 : Int)).length + 1 + (cut l (k1 : Int) (ln l)).length) 40 = true := Vy (by rw [XI, Qea, List.length_take, List.length_drop]; omega) (by omega)
 have hspec : Qbg l x = some (bif ((!decide (x.State = 0)) || l.any (fun y => decide (y.Who = x.Who) && decide (y.Thing = x.Thing))) || !b then (l, false) else (Vc l (k1 : Int) [x], true)) := by
  unfold Qbg
  simp only [hs', Option.bind_some]
  rw [show slB 0 (k1 : Int) (ln l) = true from QeZ hk1, show slB (k1 : Int) (ln l) (ln l) = true from Qi4 hk1]
  simp only [Qa, hrm, hrm1, hrm2, hrm3, QjE, b1, Option.bind_some]
  cases ((!decide (x.State = 0)) || l.any (fun y => decide (y.Who = x.Who) && decide (y.Thing = x.Thing))) <;> cases b <;> rfl
 have hdup : ∀ j : Nat, ∀ hj : j < l.length, l[j].Id = x.Id → b = true → False := fun j hj he hb => by
  subst hb
  exact Qpx (fun y : Claim => y.Id) l k1 hk1 x (Qha _ (by omega) b1) j hj he
 refine ⟨_, hspec, ?_, ?_, ?_⟩
 ·unfold Qcr Vr
  simp only [hrm, Qa, Option.bind_some, Qh2 l x.Id hl, hc, hr, QlS l k2 hk2 x 40 hl (by omega), c2]
  rw [← hbc]
  cases hb : b with
  | false =>
   cases decide (x.State = 0) <;> cases decide (0 ≤ Zp l x.Id) <;> cases l.any (fun y => decide (y.Who = x.Who) && decide (y.Thing = x.Thing)) <;> rfl
  | true =>
   have hk := hone (.inl hb)
   rcases Qeq l x.Id with h | ⟨j, hj, h, hid⟩
   ·rw [h, ← hk]
    cases decide (x.State = 0) <;> cases l.any (fun y => decide (y.Who = x.Who) && decide (y.Thing = x.Thing)) <;> rfl
   ·exact absurd hb (fun hb => hdup j hj hid hb)
 ·cases hb : b with
  | true =>
   subst hb
   have := (QfC _ b1 (by omega)).1
   cases (((!decide (x.State = 0)) || l.any (fun y => decide (y.Who = x.Who) && decide (y.Thing = x.Thing))) || !true) with
   | true => exact hl
   | false => show (Vc l (k1 : Int) [x]).length ≤ _; omega
  | false => rw [Bool.not_false, Bool.or_true]; exact hl
 ·intro h
  have hb : b = true := by
   cases hb : b with
   | true => rfl
   | false => rw [hb, Bool.not_false, Bool.or_true] at h; cases h
  have hq : (((!decide (x.State = 0)) || l.any (fun y => decide (y.Who = x.Who) && decide (y.Thing = x.Thing))) || !b) = false := by
   cases hq : (((!decide (x.State = 0)) || l.any (fun y => decide (y.Who = x.Who) && decide (y.Thing = x.Thing))) || !b) with
   | false => rfl
   | true => rw [hq] at h; cases h
  rw [hq]
  refine ⟨k1, hk1, rfl, ?_, ?_, A1⟩
  ·subst hb
   have hup := Qha _ (by omega) b1
   have hlt : k1 < (Vc l (k1 : Int) [x]).length := by omega
   have hx : (Vc l (k1 : Int) [x])[k1] = x := by
    have := Qr1 l k1 hk1 x
    rw [List.getElem?_eq_getElem hlt] at this
    exact Option.some.inj this
   obtain ⟨j, hj, h1, h2⟩ := Qlc (Vc l (k1 : Int) [x]) x.Id k1 hlt (by rw [hx])
   show Zp (Vc l (k1 : Int) [x]) x.Id = _
   rw [h1]
   have hu := QuE (n := (Vc l (k1 : Int) [x]).length) (fun i => (gt (Vc l (k1 : Int) [x]) (i : Int)).Id) (fun i h1 h2 => by
    show (gt (Vc l (k1 : Int) [x]) ((i - 1 : Nat) : Int)).Id < (gt (Vc l (k1 : Int) [x]) (i : Int)).Id
    rw [Qw h1, Qw (show i - 1 < (Vc l (k1 : Int) [x]).length by omega)]; exact hup i h1 h2)
   by_cases h3 : j < k1
   ·have := hu k1 j h3 hlt
    simp only [Qw hj, Qw hlt, h2, hx] at this; omega
   ·by_cases h4 : k1 < j
    ·have := hu j k1 h4 hj
     simp only [Qw hj, Qw hlt, h2, hx] at this; omega
    ·congr 1; omega
  ·intro j hj hjk
   have hk := hone (.inl hb)
   exact B1 j hj (by omega)
theorem QE8 (h out : House) (ok : Bool) (hm : Qh h) (hb : X4 h = false) : Qq h out ok = some (h, false) := by
 unfold Qq
 simp only [(XH h hm).1, hb, XL h hm, Option.bind_some]
 cases ok <;> rfl
theorem QLC (h out : House) (hm : Qh h) : Qq h out false = some (h, false) := by
 unfold Qq
 simp only [XL h hm, Option.bind_some]
 rfl
theorem Qwz (h : House) (out : House) (hm : Qh h) (ho : Qh out) : QaY h out = some (Qcf h out true) := by
 unfold QaY Qcf
 have : VN [] false = some false := by rw [Qm0 [] (by simp)]; rfl
 simp only [this, (XH h hm).2, (XH out ho).2, X9 h hm, Option.bind_some]
 cases X4 h <;> cases X4 out <;> rfl
theorem Qvg (h : House) (m1 : h.Finds.length ≤ 1048576) (m2 : h.Secrets.length ≤ 1048576) (mm : ∀ x ∈ h.Secrets, x.Marks.length ≤ 1048576) (m4 : h.Claims.length ≤ 1048576) (ht : V4 h = some true) : ∀ i (hi : i < h.Claims.length) (hi2 : i < h.Trials.length), h.Trials[i].Claim = h.Claims[i].Id := by
 have hlen := QiH h ht
 unfold V4 at ht
 rw [show (!decide (ln h.Trials = ln h.Claims)) = false from by rw [Q5, Q5, hlen]; simp] at ht
 have hstep : ∀ i (hi : i < h.Claims.length) (hi2 : i < h.Trials.length), ∃ o, Vd h h.Claims (ln h.Claims) (i : Int) = some o ∧ (o = .inl ((i + 1 : Nat) : Int) ∨ o = .inr (.ret false)) ∧ (o = .inl ((i + 1 : Nat) : Int) → h.Trials[i].Claim = h.Claims[i].Id) := by
  intro i hi hi2
  obtain ⟨t, _, t2⟩ := Qnf h.Trials[i]
  obtain ⟨m, _, k2, k3⟩ := QlJ h.Secrets h.Claims[i].Thing m2 mm
  obtain ⟨c, _, s2⟩ := QfQ m h.Trials[i] k3
  have hw : ∃ w, QcJ h.Claims[i].State = some w := by
   unfold QcJ
   cases decide (h.Claims[i].State = 0) <;> cases decide (h.Claims[i].State = 1) <;> cases decide (h.Claims[i].State = 3) <;> cases decide (h.Claims[i].State = 2) <;> exact ⟨_, rfl⟩
  obtain ⟨w, hw⟩ := hw
  simp only [Vd, Qx hi, Qg hi, Qw hi, Qg hi2, Qw hi2, QL (show (i : Int) < 9223372036854775807 by omega), cond_true, Qa, t2, k2, s2, hw, (Jw h.Finds _ m1).2, Option.bind_some]
  by_cases hc : h.Trials[i].Claim = h.Claims[i].Id
  ·cases decide (Zu h.Finds h.Claims[i].Thing < 0) <;> cases decide (h.Trials[i].Claim = h.Claims[i].Id) <;> cases t <;> cases decide (c = w) <;> first | exact ⟨_, rfl, .inl rfl, fun _ => hc⟩ | exact ⟨_, rfl, .inr rfl, fun _ => hc⟩
  ·rw [decide_eq_false hc]
   cases decide (Zu h.Finds h.Claims[i].Thing < 0) <;> cases t <;> exact ⟨_, rfl, .inr rfl, fun h => by cases h⟩
 have key : ∀ (m i : Nat), i + m = h.Claims.length → run (Vd h h.Claims (ln h.Claims)) (i : Int) = some (.brk ()) ∨ run (Vd h h.Claims (ln h.Claims)) (i : Int) = some (.ret false) := by
  intro m
  induction m with
  | zero =>
   intro i hi
   have : i = h.Claims.length := by omega
   subst this
   left
   rw [Qi]
   simp only [Vd, QI (Nat.le_refl _), cond_false]; rfl
  | succ m ih =>
   intro i hi
   obtain ⟨o, h1, h2, _⟩ := hstep i (by omega) (by omega)
   rw [Qi, h1]
   rcases h2 with rfl | rfl
   ·exact ih (i + 1) (by omega)
   ·exact .inr rfl
 have key2 : ∀ (m i : Nat), i + m = h.Claims.length → run (Vd h h.Claims (ln h.Claims)) (i : Int) = some (.brk ()) → ∀ j (hj : j < h.Claims.length) (hj2 : j < h.Trials.length), i ≤ j → h.Trials[j].Claim = h.Claims[j].Id := by
  intro m
  induction m with
  | zero => intro i hi _ j hj _ hij; omega
  | succ m ih =>
   intro i hi hr j hj hj2 hij
   obtain ⟨o, h1, h2, h3⟩ := hstep i (by omega) (by omega)
   rw [Qi, h1] at hr
   rcases h2 with rfl | rfl
   ·by_cases hij' : i = j
    ·subst hij'; exact h3 rfl
    ·exact ih (i + 1) (by omega) hr j hj hj2 (by omega)
   ·simp at hr
 intro i hi hi2
 rcases key h.Claims.length 0 (by omega) with hr | hr
 ·exact key2 h.Claims.length 0 (by omega) hr i hi hi2 (by omega)
 ·rw [show run (Vd h h.Claims (ln h.Claims)) 0 = some (.ret false) from hr] at ht
  cases ht
theorem QoC (h : House) (a w t : Int) (hm : Qh h) : ∃ r, Xj h a w t = some r ∧ QbF h a w t = some r ∧ Qh r.1 := by
 have hm7 := hm
 obtain ⟨m1, m2, m3, m4, m5, m6, m7⟩ := hm7
 obtain ⟨c, c1, c2, c3, c4⟩ := QyV h.Claims ⟨a, w, t, h.Now, 0⟩ m4
 obtain ⟨v, v1, v2⟩ := QeD h.Slots t m3
 obtain ⟨k, hk, hr, hf1, hf2⟩ := QoD (n := h.Trials.length) (fun i => decide ((gt h.Trials (i : Int)).Claim < a)) (step := Jy a t h ⟨h.No, h.Finds, h.Secrets, h.Slots, c.1, h.Trials, h.Chain, h.Book, h.Now⟩ c.2)
  (fun i hi => by
   simp only [Jy, Qx hi, Qg hi, QL (show (i : Int) < 9223372036854775807 by omega), cond_true, Qa, Option.bind_some]
   cases decide ((gt h.Trials (i : Int)).Claim < a) <;> rfl)
  (by simp only [Jy, QI (Nat.le_refl _), cond_false]; rfl)
 have hrm1 : rm (cut h.Trials 0 (k : Int)).length 32 = true := Vy (by rw [XI, List.length_take]; omega) (by omega)
 have hrm2 : rm ((cut h.Trials 0 (k : Int)).length + 1) 32 = true := Vy (by rw [XI, List.length_take]; omega) (by omega)
 have hrm3 : rm ((cut h.Trials 0 (k : Int)).length + 1 + (cut h.Trials (k : Int) (ln h.Trials)).length) 32 = true := Vy (by rw [XI, Qea, List.length_take, List.length_drop]; omega) (by omega)
 have hspec : Xj h a w t = bif c.2 then (Jr h.Slots t).bind fun r3 => Qq h ⟨h.No, h.Finds, h.Secrets, h.Slots, c.1, Vc h.Trials (k : Int) [⟨a, 0, 0, 0⟩], h.Chain, h.Book, h.Now⟩ (!decide (r3 = 0)) else some (h, false) := by
  unfold Xj
  simp only [XL h hm, c1, Option.bind_some, hr]
  rw [show slB 0 (k : Int) (ln h.Trials) = true from QeZ hk, show slB (k : Int) (ln h.Trials) (ln h.Trials) = true from Qi4 hk]
  simp only [Qa, hrm1, hrm2, hrm3, QjE]
  cases c.2 with
  | false => simp only [cond_false, QLC h _ hm, Option.bind_some]
  | true =>
   simp only [cond_true, QlG h.Slots t m3, Option.bind_some]
   cases Qq h ⟨h.No, h.Finds, h.Secrets, h.Slots, c.1, Vc h.Trials (k : Int) [⟨a, 0, 0, 0⟩], h.Chain, h.Book, h.Now⟩ (!decide ((bif decide (t = 0) || decide (QaR h.Slots t < 0) then (0 : Int) else (gt h.Slots (QaR h.Slots t)).Id) = 0)) <;> rfl
 rw [hspec]
 unfold QbF
 simp only [X9 h hm, c2, Option.bind_some, (XH h hm).2, v1]
 cases hc : c.2 with
 | false => exact ⟨(h, false), rfl, rfl, hm⟩
 | true =>
  simp only [cond_true, Bool.not_true, cond_false, QlG h.Slots t m3, Option.bind_some]
  cases hb : X4 h with
  | false =>
   rw [QE8 h _ _ hm hb]
   exact ⟨(h, false), rfl, rfl, hm⟩
  | true =>
   have ho := Qhe h hm hb
   have hcl := QfC _ ho.cS (by omega)
   have htl := QiH h ho.trials
   obtain ⟨k2, hk2, hins, hix, hlo, hhi⟩ := c4 hc
   have hids := Qvg h m1 m2.1 (fun x hx => m2.2 x hx) m4 ho.trials
   have hkk : k = k2 := by
    by_cases h1 : k < k2
    ·have := hf2 (by omega)
     simp only [Qw (show k < h.Trials.length by omega), decide_eq_false_iff_not] at this
     rw [hids k (by omega) (by omega)] at this
     exact absurd (hlo k (by omega) h1) this
    ·by_cases h2 : k2 < k
     ·have := hf1 k2 h2
      simp only [Qw (show k2 < h.Trials.length by omega), decide_eq_true_eq] at this
      rw [hids k2 (by omega) (by omega)] at this
      exact absurd this (hhi k2 (by omega) (Nat.le_refl _))
     ·omega
   have hil := QeY h.Trials k hk (⟨a, 0, 0, 0⟩ : Trial)
   have wo : Qh ⟨h.No, h.Finds, h.Secrets, h.Slots, c.1, Vc h.Trials (k : Int) [⟨a, 0, 0, 0⟩], h.Chain, h.Book, h.Now⟩ := ⟨m1, m2, m3, c3, by show (Vc h.Trials (k : Int) [⟨a, 0, 0, 0⟩]).length ≤ _; omega, m6, m7⟩
   have hslot : (!decide ((bif decide (t = 0) || decide (QaR h.Slots t < 0) then (0 : Int) else (gt h.Slots (QaR h.Slots t)).Id) = 0)) = Qbl h.Slots t := by
    unfold Qbl
    cases decide (t = 0) with
    | true => rfl
    | false =>
     rcases Qei h.Slots t with ⟨_, h2⟩ | ⟨j, hj, h2, _, _⟩
     ·rw [h2]; rfl
     ·rw [h2]
      have hs2 : 1 ≤ h.Slots[j].Id := by
       obtain ⟨q, q1, _, q3⟩ := Qmm h.Slots m3
       rw [ho.tS] at q1
       exact (q3 (Option.some.inj q1).symm).2 _ (List.getElem_mem hj)
      simp only [Bool.false_or, decide_eq_false (show ¬ (j : Int) < 0 by omega), cond_false, Qw hj, decide_eq_false (show ¬ h.Slots[j].Id = 0 by omega)]
   rw [hslot, QcU h _ _ hm wo]
   refine ⟨_, rfl, ?_, Qam _ _ _ hm wo⟩
   simp only [Bool.not_true, cond_false, Option.bind_some, v2]
   cases Qbl h.Slots t with
   | false => rfl
   | true =>
    simp only [Bool.not_true, cond_false, Qh2 c.1 a c3, hix, Option.bind_some, ← hkk, QlS h.Trials k hk (⟨a, 0, 0, 0⟩ : Trial) 32 m5 (by omega), Qa, Qwz h _ hm wo]
end Go.Proofs.YtponohekgnklkaaGreat
namespace Go.Proofs.YtponohekgnklkaaGreat
open Go
set_option linter.unusedVariables false
set_option linter.unusedSimpArgs false
def Qey (out : List Bid) (c : Int) : Nat → Nat
 | 0 => 0
 | n + 1 => bif decide ((gt out (n : Int)).Cents < c) then Qey out c n else n + 1
theorem Qo1 (out : List Bid) (c : Int) : ∀ n, Qey out c n ≤ n
 | 0 => Nat.le_refl _
 | n + 1 => by
  have := Qo1 out c n
  unfold Qey
  cases decide ((gt out (n : Int)).Cents < c) <;> simp <;> omega
def Je (l : List Bid) : Nat → List Bid
 | 0 => []
 | i + 1 => Vc (Je l i) ((Qey (Je l i) (gt l (i : Int)).Cents i : Nat) : Int) [gt l (i : Int)]
theorem QeL (l : List Bid) : ∀ i, (Je l i).length = i
 | 0 => rfl
 | i + 1 => by
  have h := QeL l i
  unfold Je
  rw [QeY _ _ (by rw [h]; exact Qo1 _ _ _), h]
theorem Qt5 {i : Nat} (h : (i : Int) < 9223372036854775807) : w64 (((i + 1 : Nat) : Int) - 1) = (i : Int) := by rw [Q9] <;> omega
theorem Qvs (l : List Bid) (hl : l.length ≤ 1048576) : Qeg l = some (Je l l.length) := by
 have inner : ∀ (out : List Bid) (i : Nat) (hi : i < l.length) (ho : out.length ≤ 1048576) (n : Nat), n ≤ out.length → run (Qbs l out (i : Int)) (n : Int) = some ((Qey out (gt l (i : Int)).Cents n : Nat) : Int) := by
  intro out i hi ho n
  induction n with
  | zero =>
   intro _
   rw [Qi]
   simp only [Qbs, show decide (0 < ((0 : Nat) : Int)) = false from rfl, cond_false, Option.bind_some, Qey]
  | succ n ih =>
   intro hn
   rw [Qi]
   simp only [Qbs, show decide (0 < ((n + 1 : Nat) : Int)) = true from decide_eq_true (by omega), cond_true, Qt5 (show (n : Int) < 9223372036854775807 by omega), Qg (show n < out.length by omega), Qg hi, Qa, Option.bind_some, Qey]
   cases decide ((gt out (n : Int)).Cents < (gt l (i : Int)).Cents) with
   | true => simp only [cond_true]; exact ih (by omega)
   | false => rfl
 have hr := XF (step := ZY l) (fun i => (Je l i, (i : Int))) (r := Je l l.length) l.length (fun i hi => by
   have hlen := QeL l i
   have hp := Qo1 (Je l i) (gt l (i : Int)).Cents i
   have hin := inner (Je l i) i hi (by omega) (Je l i).length (Nat.le_refl _)
   rw [hlen] at hin
   have hln : ln (Je l i) = ((i : Nat) : Int) := by rw [Q5, hlen]
   have e1 : slB 0 ((Qey (Je l i) (gt l (i : Int)).Cents i : Nat) : Int) (i : Int) = true := QeZ hp
   have e2 : slB ((Qey (Je l i) (gt l (i : Int)).Cents i : Nat) : Int) (i : Int) (i : Int) = true := Qi4 hp
   have c1 : (cut (Je l i) 0 ((Qey (Je l i) (gt l (i : Int)).Cents i : Nat) : Int)).length = Qey (Je l i) (gt l (i : Int)).Cents i := by rw [XI, List.length_take, hlen]; omega
   have c3 : (cut (Je l i) ((Qey (Je l i) (gt l (i : Int)).Cents i : Nat) : Int) (i : Int)).length = i - Qey (Je l i) (gt l (i : Int)).Cents i := by rw [← hln, Qea, List.length_drop, hlen]
   simp only [ZY, Qx hi, cond_true, hln, hin, Option.bind_some, e1, e2, Qa, Qg hi, Vy (show 0 + (cut (Je l i) 0 ((Qey (Je l i) (gt l (i : Int)).Cents i : Nat) : Int)).length ≤ 2000000 by omega) (show 24 ≤ 1024 by omega), Vy (show (cut (Je l i) 0 ((Qey (Je l i) (gt l (i : Int)).Cents i : Nat) : Int)).length + 1 ≤ 2000000 by omega) (show 24 ≤ 1024 by omega),
    Vy (show (cut (Je l i) 0 ((Qey (Je l i) (gt l (i : Int)).Cents i : Nat) : Int)).length + 1 + (cut (Je l i) ((Qey (Je l i) (gt l (i : Int)).Cents i : Nat) : Int) (i : Int)).length ≤ 2000000 by omega) (show 24 ≤ 1024 by omega), QL (show (i : Int) < 9223372036854775807 by omega)]
   rw [← hln, QjE, hln]
   rfl)
  (by simp only [ZY, QI (Nat.le_refl _), cond_false])
 unfold Qeg
 rw [show run (ZY l) ([], 0) = some (Je l l.length) from hr]; rfl
theorem QwG (x y : Bid) : ∃ c, ZO x y = some c ∧ decide (c < 0) = decide (y.Cents < x.Cents) := by
 unfold ZO Qcz Qcq
 simp only [decide_true, Bool.not_true, Option.bind_some, cond_false]
 by_cases h : y.Cents < x.Cents
 ·rw [decide_eq_true h]; exact ⟨-1, rfl, rfl⟩
 ·rw [decide_eq_false h]
  by_cases h' : x.Cents < y.Cents
  ·rw [decide_eq_true h']; exact ⟨1, rfl, rfl⟩
  ·rw [decide_eq_false h']; exact ⟨0, rfl, rfl⟩
theorem Qzg {p q : List Bid} {x : Bid} : gt (p ++ x :: q) (p.length : Int) = x := by
 rw [Qw (by simp)]; simp
theorem QSY (b i : Int) (p q : List Bid) (x : Bid) (hp : p.length ≤ 1048576) : ∀ j, j ≤ p.length → run (Qu 0 b i) (p.take j ++ x :: (p.drop j ++ q), (j : Int)) = some (Vc p ((Qey p x.Cents j : Nat) : Int) [x] ++ q) := by
 intro j
 induction j with
 | zero =>
  intro _
  rw [Qi]
  simp only [Qu, show decide (0 < ((0 : Nat) : Int)) = false from rfl, cond_false, Option.bind_some, Qey]
  simp [Vc]
 | succ j ih =>
  intro hj
  have hlt : j < p.length := by omega
  have hl1 : (p.take (j + 1)).length = j + 1 := by rw [List.length_take]; omega
  have hs : p.take (j + 1) ++ x :: (p.drop (j + 1) ++ q) = p.take j ++ p[j] :: (x :: (p.drop (j + 1) ++ q)) := by
   rw [List.take_succ_eq_append_getElem hlt, List.append_assoc]; rfl
  have g1 : gt (p.take (j + 1) ++ x :: (p.drop (j + 1) ++ q)) ((j + 1 : Nat) : Int) = x := by
   have := Qzg (p := p.take (j + 1)) (q := p.drop (j + 1) ++ q) (x := x)
   rw [hl1] at this; exact this
  have hl0 : (p.take j).length = j := by rw [List.length_take]; omega
  have g0 : gt (p.take (j + 1) ++ x :: (p.drop (j + 1) ++ q)) (j : Int) = p[j] := by
   rw [hs]
   have := Qzg (p := p.take j) (q := x :: (p.drop (j + 1) ++ q)) (x := p[j])
   rw [hl0] at this; exact this
  have hlen : (p.take (j + 1) ++ x :: (p.drop (j + 1) ++ q)).length = p.length + 1 + q.length := by simp; omega
  obtain ⟨c, c1, c2⟩ := QwG x p[j]
  rw [Qi]
  simp only [Qu, show decide (0 < ((j + 1 : Nat) : Int)) = true from decide_eq_true (by omega), cond_true, Qt5 (show (j : Int) < 9223372036854775807 by omega), Qg (show j + 1 < (p.take (j + 1) ++ x :: (p.drop (j + 1) ++ q)).length by omega), Qg (show j < (p.take (j + 1) ++ x :: (p.drop (j + 1) ++ q)).length by omega), Qa, g0, g1, c1, Option.bind_some, c2, Qey, Qw hlt]
  cases decide (p[j].Cents < x.Cents) with
  | false =>
   simp only [cond_false]
   congr 1
   simp [Vc]
  | true =>
   simp only [cond_true, Int.toNat_natCast]
   have he : ((p.take (j + 1) ++ x :: (p.drop (j + 1) ++ q)).set (j + 1) p[j]).set j x = p.take j ++ x :: (p.drop j ++ q) := by
    rw [hs, List.set_append_right _ _ (by omega), List.set_append_right _ _ (by omega), hl0]
    simp only [Nat.add_sub_cancel_left, Nat.sub_self, List.set_cons_succ, List.set_cons_zero]
    rw [List.drop_eq_getElem_cons hlt]; rfl
   rw [he]
   exact ih (by omega)
theorem QoH (l : List Bid) (hl : l.length ≤ 1048576) (h1 : 1 ≤ l.length) : Ql l 0 (ln l) = some (Je l l.length) := by
 have hr := XF (step := Qn 0 (ln l)) (fun i => (Je l (i + 1) ++ l.drop (i + 1), ((i + 1 : Nat) : Int))) (r := Je l l.length) (l.length - 1) (fun i hi => by
   have hlt : i + 1 < l.length := by omega
   have hlen := QeL l (i + 1)
   have hd : l.drop (i + 1) = l[i + 1] :: l.drop (i + 1 + 1) := List.drop_eq_getElem_cons hlt
   have hk := QSY (ln l) ((i + 1 : Nat) : Int) (Je l (i + 1)) (l.drop (i + 1 + 1)) l[i + 1] (by omega) (i + 1) (by omega)
   rw [List.take_of_length_le (by omega), List.drop_of_length_le (show (Je l (i + 1)).length ≤ i + 1 by omega), List.nil_append] at hk
   simp only [Qn, show decide (((i + 1 : Nat) : Int) < ln l) = true from decide_eq_true (by rw [Q5]; omega), cond_true, hd, hk, Option.bind_some, QL (show ((i + 1 : Nat) : Int) < 9223372036854775807 by omega)]
   rw [show Je l (i + 1 + 1) = Vc (Je l (i + 1)) ((Qey (Je l (i + 1)) (gt l ((i + 1 : Nat) : Int)).Cents (i + 1) : Nat) : Int) [gt l ((i + 1 : Nat) : Int)] from rfl, Qw hlt])
  (by
   rw [show l.length - 1 + 1 = l.length by omega]
   simp only [Qn, show decide (((l.length : Nat) : Int) < ln l) = false from decide_eq_false (by rw [Q5]; omega), cond_false, List.drop_length, List.append_nil])
 have h0 : Je l (0 + 1) ++ l.drop (0 + 1) = l := by
  cases l with
  | nil => simp at h1
  | cons x t => simp [Je, Vc, Qey, gt]
 unfold Ql
 simp only [h0] at hr
 rw [show w64 (0 + 1) = 1 from rfl, show run (Qn 0 (ln l)) (l, 1) = some (Je l l.length) from hr]; rfl
theorem QmO (l : List Bid) : Ql l 20 20 = some l := by
 unfold Ql
 rw [Qi]; rfl
theorem QrY (l : List Bid) (hl : l.length ≤ 20) (h1 : 1 ≤ l.length) : QaZ l = some (Je l l.length) := by
 have hrm : rm (0 + l.length) 24 = true := Vy (by omega) (by omega)
 have h7 : ∀ r : List Bid, run (QH r (ln l)) 20 = some () := fun r => by
  rw [Qi]
  simp only [QH, show decide (20 < ln l) = false from decide_eq_false (by rw [Q5]; omega), cond_false, Option.bind_some]
 unfold QaZ QbZ Vf Vj
 simp only [hrm, Qa, Option.bind_some]
 by_cases h20 : l.length = 20
 ·have hln : ln l = 20 := by rw [Q5, h20]; rfl
  have hins := QoH l (by omega) h1
  have hr : run (Qp (ln l) 20) (l, 0, 20) = some (Je l l.length, 20) := by
   rw [Qi]
   simp only [Qp, show decide (20 ≤ ln l) = true from decide_eq_true (by omega), cond_true]
   rw [hln] at hins
   rw [hins]
   simp only [Option.bind_some]
   rw [Qi]
   simp only [Qp, show decide (w64 (20 + 20) ≤ ln l) = false from decide_eq_false (by rw [show w64 (20 + 20) = 40 from rfl, hln]; omega), cond_false, Option.bind_some]
  rw [hr]
  simp only [Option.bind_some]
  rw [hln, QmO]
  rw [hln] at h7
  simp only [Option.bind_some, h7]
 ·have hr : run (Qp (ln l) 20) (l, 0, 20) = some (l, 0) := by
   rw [Qi]
   simp only [Qp, show decide (20 ≤ ln l) = false from decide_eq_false (by rw [Q5]; omega), cond_false, Option.bind_some]
  rw [hr]
  simp only [Option.bind_some, QoH l (by omega) h1, h7]
end Go.Proofs.YtponohekgnklkaaGreat
namespace Go.Proofs.YtponohekgnklkaaGreat
open Go
set_option linter.unusedVariables false
set_option linter.unusedSimpArgs false
theorem Qzk (x : Bid) : ∃ b, Qek x = some b ∧ ((Qe x.Who 1 999).bind fun r => (bif (!r) then some true else (Qe x.Cents 1 10000000).bind fun r2 => some (!r2))) = some (!b) ∧ (b = true → 1 ≤ x.Who ∧ 1 ≤ x.Cents ∧ x.Cents ≤ 10000000) := by
 unfold Qek Qb Qe
 simp only [Option.bind_some]
 cases h1 : (decide (1 ≤ x.Who) && decide (x.Who ≤ 999)) with
 | false => exact ⟨false, rfl, rfl, fun h => by cases h⟩
 | true =>
  cases h2 : (decide (1 ≤ x.Cents) && decide (x.Cents ≤ 10000000)) with
  | false => exact ⟨false, rfl, rfl, fun h => by cases h⟩
  | true =>
   simp only [Bool.and_eq_true, decide_eq_true_eq] at h1 h2
   exact ⟨true, rfl, rfl, fun _ => ⟨h1.1, h2.1, h2.2⟩⟩
theorem Qlf (l : List Bid) (i : Nat) (hi : i < l.length) (hl : l.length ≤ 1048576) :
  run (Qbd l (i : Int)) 0 = some (bif (l.take i).any (fun y => decide (y.Who = l[i].Who)) then .ret false else .brk ()) := by
 have hlen : (l.take i).length = i := by simp; omega
 exact Qg7 (l.take i) (fun y => decide (y.Who = l[i].Who)) (r := false) (step := Qbd l (i : Int))
  (fun k hk => by
   rw [hlen] at hk
   have hkl : k < l.length := by omega
   have e : (l.take i)[k]'(by rw [hlen]; exact hk) = l[k] := by simp
   simp only [Qbd, e, show decide ((k : Int) < (i : Int)) = true from decide_eq_true (by omega), Qg hi, Qw hi, Qg hkl, Qw hkl, QL (show (k : Int) < 9223372036854775807 by omega), cond_true, Qa]
   cases decide (l[k].Who = l[i].Who) <;> rfl)
  (by rw [hlen]; simp only [Qbd, show decide ((i : Int) < (i : Int)) = false from decide_eq_false (by omega), cond_false])
theorem Qlk (p : List Bid) (x : Bid) (hp : p.length ≤ 1048576) : Q7 p x = some (p.any (fun y => decide (y.Who = x.Who))) := by
 have hi := XQ p (fun y => decide (y.Who = x.Who)) (fun i => (i : Int)) (step := QJ p x (ln p))
  (fun i hi => by
   simp only [QJ, Qc3, Qx hi, Qg hi, Qw hi, QL (show (i : Int) < 9223372036854775807 by omega), cond_true, Qa, Option.bind_some]
   cases decide (p[i].Who = x.Who) <;> rfl)
  (by simp only [QJ, QI (Nat.le_refl _), cond_false])
 unfold Q7 VH
 rw [hi]
 cases hf : p.findIdx? (fun y => decide (y.Who = x.Who)) with
 | none =>
  have : p.any (fun y => decide (y.Who = x.Who)) = false := by
   rw [List.any_eq_false]
   intro y hy
   have := List.findIdx?_eq_none_iff.1 hf y hy
   simpa using this
  rw [this]; rfl
 | some i =>
  obtain ⟨hi', hp'⟩ := QbT hf
  rw [List.any_eq_true.2 ⟨_, List.getElem_mem hi', hp'⟩]
  simp only [Option.bind_some, evO, decide_eq_true (show (0 : Int) ≤ (i : Int) by omega)]
theorem QBi (l : List Bid) (hl : l.length ≤ 1048576) : ∃ b, Qje l = some b ∧ Qd7 l = some b ∧ (b = true → l.length ≤ 20 ∧ ∀ x ∈ l, 1 ≤ x.Who ∧ 1 ≤ x.Cents ∧ x.Cents ≤ 10000000) := by
 obtain ⟨b, h1, h2, h3⟩ := QdQ (n := l.length) (r := false) (s1 := Qbb l) (s2 := Zx l l (ln l)) (fun i hi _ => by
   obtain ⟨b, q1, q2, _⟩ := Qzk l[i]
   have hsl : slB 0 (i : Int) (ln l) = true := QeZ (by omega)
   simp only [Qbb, Zx, Qx hi, Qg hi, Qw hi, QL (show (i : Int) < 9223372036854775807 by omega), cond_true, Qa, q1, q2, Option.bind_some, Qlf l i hi hl, XI, hsl, Qlk (l.take i) l[i] (by simp; omega)]
   cases b <;> cases (l.take i).any (fun y => decide (y.Who = l[i].Who)) <;> first | exact ⟨true, rfl, rfl⟩ | exact ⟨false, rfl, rfl⟩)
  (by simp only [Qbb, QI (Nat.le_refl _), cond_false]) (by simp only [Zx, QI (Nat.le_refl _), cond_false])
 refine ⟨b && decide ((l.length : Int) ≤ 20), (QaG _ h1).1, (QaG _ h2).2, fun hb => ?_⟩
 simp only [Bool.and_eq_true, decide_eq_true_eq] at hb
 refine ⟨by omega, fun x hx => ?_⟩
 obtain ⟨i, hi, rfl⟩ := List.getElem_of_mem hx
 have hstep := (h3 hb.1 i hi).1
 obtain ⟨c, q1, q2, q3⟩ := Qzk l[i]
 simp only [Qbb, Qx hi, Qg hi, Qw hi, cond_true, Qa, q2, Option.bind_some] at hstep
 cases c with
 | true => exact q3 rfl
 | false => simp at hstep
theorem Qm6 (l : List Bid) : ∀ i, i ≤ l.length → ∀ x ∈ Je l i, x ∈ l
 | 0, _, x, hx => by simp [Je] at hx
 | i + 1, hi, x, hx => by
  unfold Je at hx
  simp only [Vc, Int.toNat_natCast, List.mem_append, List.mem_singleton] at hx
  rcases hx with h | h | h
  ·exact Qm6 l i (by omega) x (List.mem_of_mem_take h)
  ·subst h; rw [Qw (show i < l.length by omega)]; exact List.getElem_mem _
  ·exact Qm6 l i (by omega) x (List.mem_of_mem_drop h)
theorem QHG (l : List Bid) (hl : l.length ≤ 1048576) : ∃ r, QgB l = some r ∧ QdJ l = some r ∧ (r = (0, 0) ∨ (1 ≤ r.1 ∧ 1 ≤ r.2 ∧ r.2 ≤ 10000000)) := by
 obtain ⟨b, b1, b2, b3⟩ := QBi l hl
 unfold QgB QdJ
 rw [b1, b2]
 simp only [Option.bind_some]
 by_cases h0 : ln l = 0
 ·rw [decide_eq_true h0]; exact ⟨(0, 0), rfl, rfl, .inl rfl⟩
 ·rw [decide_eq_false h0]
  have hpos : 1 ≤ l.length := by rw [Q5] at h0; omega
  cases b with
  | false => exact ⟨(0, 0), rfl, rfl, .inl rfl⟩
  | true =>
   obtain ⟨h20, hall⟩ := b3 rfl
   have hlen := QeL l l.length
   have hmem := Qm6 l l.length (Nat.le_refl _)
   have hi0 : 0 < (Je l l.length).length := by omega
   have e0 : inb (Je l l.length) 0 = true := Qg hi0
   have g0 : gt (Je l l.length) 0 = (Je l l.length)[0] := Qw hi0
   have p0 := hall _ (hmem _ (List.getElem_mem hi0))
   simp only [cond_false, Bool.not_true, Option.bind_some, Qvs l hl, QrY l h20 hpos, e0, Qa, g0]
   by_cases h1 : l.length = 1
   ·rw [show decide (ln (Je l l.length) = 1) = true from decide_eq_true (by rw [Q5, hlen, h1]; rfl)]
    exact ⟨_, rfl, rfl, .inr ⟨p0.1, by show (1 : Int) ≤ 1; omega, by show (1 : Int) ≤ 10000000; omega⟩⟩
   ·have hi1 : 1 < (Je l l.length).length := by omega
    have e1 : inb (Je l l.length) 1 = true := Qg hi1
    have g1 : gt (Je l l.length) 1 = (Je l l.length)[1] := Qw hi1
    have p1 := hall _ (hmem _ (List.getElem_mem hi1))
    rw [show decide (ln (Je l l.length) = 1) = false from decide_eq_false (by rw [Q5, hlen]; omega), e1, g1]
    exact ⟨_, rfl, rfl, .inr ⟨p0.1, p1.2.1, p1.2.2⟩⟩
theorem QqC (c : Int) (h0 : 0 ≤ c) (h1 : c ≤ 10000000) : ∃ a b, a ≤ c ∧ QdX c [1, 9] = some [a, b] ∧ Qa7 c [1, 9] = some [a, b] := by
 have t1 : (c * 1).tdiv 10 = c / 10 := by rw [Int.mul_one, Int.tdiv_eq_ediv_of_nonneg h0]
 have t9 : (c * 9).tdiv 10 = c * 9 / 10 := Int.tdiv_eq_ediv_of_nonneg (by omega)
 have hb1 := Int.ediv_nonneg h0 (show (0 : Int) ≤ 10 by omega)
 have s4 : run (QaN c [1, 9] []) (0, 0) = some (.brk 10) := by
  rw [Qi]; show run (QaN c [1, 9] []) (1, 1) = _; rw [Qi]; show run (QaN c [1, 9] []) (10, 2) = _; rw [Qi]; rfl
 have i6 : run (Jb c [1, 9] [] [1, 9] (ln ([1, 9] : List Int))) (0, 0) = some (.brk 10) := by
  rw [Qi]; show run (Jb c [1, 9] [] [1, 9] (ln ([1, 9] : List Int))) (1, 1) = _; rw [Qi]; show run (Jb c [1, 9] [] [1, 9] (ln ([1, 9] : List Int))) (10, 2) = _; rw [Qi]; rfl
 have w1 : w64 ((w64 (c * 1)).tdiv 10) = c / 10 := by rw [Q9 (n := c * 1) (by omega) (by omega), t1, Q9] <;> omega
 have w9 : w64 ((w64 (c * 9)).tdiv 10) = c * 9 / 10 := by rw [Q9 (n := c * 9) (by omega) (by omega), t9, Q9] <;> omega
 have s13 : run (JN c [1, 9] 10) ([], c, 0) = some ([c / 10, c * 9 / 10], c - c / 10 - c * 9 / 10) := by
  rw [Qi]
  simp only [JN, show decide ((0 : Int) < ln ([1, 9] : List Int)) = true from rfl, show inb ([1, 9] : List Int) 0 = true from rfl, show (!decide ((10 : Int) = 0)) = true from rfl, show gt ([1, 9] : List Int) 0 = 1 from rfl, List.nil_append, w1, cond_true, Qa, Vy (show ([] : List Int).length + 1 ≤ 2000000 by simp) (show 8 ≤ 1024 by omega), show inb ([c / 10] : List Int) 0 = true from rfl, show gt ([c / 10] : List Int) 0 = c / 10 from rfl, show w64 (0 + 1) = 1 from rfl, Option.bind_some]
  rw [Qi]
  simp only [JN, show decide ((1 : Int) < ln ([1, 9] : List Int)) = true from rfl, show inb ([1, 9] : List Int) 1 = true from rfl, show (!decide ((10 : Int) = 0)) = true from rfl, show gt ([1, 9] : List Int) 1 = 9 from rfl, w9, cond_true, Qa, Vy (show ([c / 10] : List Int).length + 1 ≤ 2000000 by simp) (show 8 ≤ 1024 by omega), show ([c / 10] ++ [c * 9 / 10] : List Int) = [c / 10, c * 9 / 10] from rfl, show inb ([c / 10, c * 9 / 10] : List Int) 1 = true from rfl, show gt ([c / 10, c * 9 / 10] : List Int) 1 = c * 9 / 10 from rfl, show w64 (1 + 1) = 2 from rfl, Option.bind_some]
  rw [Qi]
  simp only [JN, show decide ((2 : Int) < ln ([1, 9] : List Int)) = false from rfl, cond_false, Option.bind_some]
  rw [Q9 (n := c - c / 10) (by omega) (by omega), Q9 (by omega) (by omega)]
 have i16 : run (Xc c 10 [1, 9] (ln ([1, 9] : List Int))) ([], c, 0) = some ([c / 10, c * 9 / 10], c - c / 10 - c * 9 / 10) := by
  rw [Qi]
  simp only [Xc, show decide ((0 : Int) < ln ([1, 9] : List Int)) = true from rfl, show inb ([1, 9] : List Int) 0 = true from rfl, show (!decide ((10 : Int) = 0)) = true from rfl, show gt ([1, 9] : List Int) 0 = 1 from rfl, List.nil_append, w1, cond_true, Qa, Vy (show ([] : List Int).length + 1 ≤ 2000000 by simp) (show 8 ≤ 1024 by omega), show w64 (0 + 1) = 1 from rfl, Option.bind_some]
  rw [Qi]
  simp only [Xc, show decide ((1 : Int) < ln ([1, 9] : List Int)) = true from rfl, show inb ([1, 9] : List Int) 1 = true from rfl, show (!decide ((10 : Int) = 0)) = true from rfl, show gt ([1, 9] : List Int) 1 = 9 from rfl, w9, cond_true, Qa, Vy (show ([c / 10] : List Int).length + 1 ≤ 2000000 by simp) (show 8 ≤ 1024 by omega), show ([c / 10] ++ [c * 9 / 10] : List Int) = [c / 10, c * 9 / 10] from rfl, show w64 (1 + 1) = 2 from rfl, Option.bind_some]
  rw [Qi]
  simp only [Xc, show decide ((2 : Int) < ln ([1, 9] : List Int)) = false from rfl, cond_false, Option.bind_some]
  rw [Q9 (n := c - c / 10) (by omega) (by omega), Q9 (by omega) (by omega)]
 have hin1 : (decide (0 ≤ c) && decide (c ≤ 10000000)) = true := by rw [decide_eq_true h0, decide_eq_true h1]; rfl
 have hleft : c - c / 10 - c * 9 / 10 = 0 ∨ c - c / 10 - c * 9 / 10 = 1 := by omega
 refine ⟨c / 10 + (c - c / 10 - c * 9 / 10), c * 9 / 10, by omega, ?_, ?_⟩
 ·unfold QdX Qe
  simp only [s4, evO, Option.bind_some, hin1, Bool.not_true, cond_false, show (decide ((1 : Int) ≤ ln ([1, 9] : List Int)) && decide (ln ([1, 9] : List Int) ≤ 20)) = true from rfl, show decide ((10 : Int) = 0) = false from rfl, Bool.or_self, s13]
  rcases hleft with h | h
  ·rw [h, Qi]
   simp only [Qaa, show decide ((0 : Int) < 0) = false from rfl, cond_false, Option.bind_some, Int.add_zero]
  ·rw [h, Qi]
   simp only [Qaa, show decide ((0 : Int) < 1) = true from rfl, cond_true, show inb ([c / 10, c * 9 / 10] : List Int) 0 = true from rfl, Qa, show gt ([c / 10, c * 9 / 10] : List Int) 0 = c / 10 from rfl, Option.bind_some, show w64 (0 + 1) = 1 from rfl]
   rw [Qi]
   simp only [Qaa, show decide ((1 : Int) < 1) = false from rfl, cond_false, Option.bind_some]
   rw [Q9 (by omega) (by omega)]; rfl
 ·unfold Qa7 Qb
  simp only [i6, evO, Option.bind_some, hin1, Bool.not_true, cond_false, show (decide ((1 : Int) ≤ ln ([1, 9] : List Int)) && decide (ln ([1, 9] : List Int) ≤ 20)) = true from rfl, show decide ((10 : Int) = 0) = false from rfl, i16]
  rcases hleft with h | h
  ·rw [h, Qi]
   simp only [XZ, show decide ((0 : Int) < 0) = false from rfl, cond_false, Option.bind_some, Int.add_zero]
  ·rw [h, Qi]
   simp only [XZ, show decide ((0 : Int) < 1) = true from rfl, cond_true, show inb ([c / 10, c * 9 / 10] : List Int) 0 = true from rfl, Qa, show gt ([c / 10, c * 9 / 10] : List Int) 0 = c / 10 from rfl, show (!decide (ln (([c / 10, c * 9 / 10] : List Int).set (0 : Int).toNat (w64 (c / 10 + 1))) = 0)) = true from rfl, Option.bind_some, show w64 (1 - 1) = 0 from rfl]
   rw [Qi]
   simp only [XZ, show decide ((0 : Int) < 0) = false from rfl, cond_false, Option.bind_some]
   rw [Q9 (by omega) (by omega)]; rfl
theorem Qyq (p f : Int) (h0 : 0 ≤ p) (h1 : p ≤ 10000000) : ∃ s, Qd5 p f = some s ∧ QbW p f = some s ∧ ((¬ (1 ≤ f ∧ f ≤ 999) ∧ s = [⟨0, p⟩]) ∨ (1 ≤ f ∧ ∃ a b, a ≤ p ∧ s = [⟨f, a⟩, ⟨0, b⟩])) := by
 obtain ⟨a, b, hab, s1, s2⟩ := QqC p h0 h1
 unfold Qd5 QbW Qe Qb
 simp only [Option.bind_some, decide_eq_true h0, decide_eq_true h1, Bool.and_self, Bool.not_true, cond_false, s1, s2, show inb ([a, b] : List Int) 0 = true from rfl, show inb ([a, b] : List Int) 1 = true from rfl, Qa, show gt ([a, b] : List Int) 0 = a from rfl, show gt ([a, b] : List Int) 1 = b from rfl]
 by_cases hf : 1 ≤ f ∧ f ≤ 999
 ·rw [decide_eq_true hf.1, decide_eq_true hf.2]
  exact ⟨_, rfl, rfl, .inr ⟨hf.1, a, b, hab, rfl⟩⟩
 ·rw [show (decide (1 ≤ f) && decide (f ≤ 999)) = false from by rw [Bool.eq_false_iff]; simpa using fun h => by omega]
  exact ⟨_, rfl, rfl, .inl ⟨hf, rfl⟩⟩
theorem QAE (p f : Int) (h0 : 0 ≤ p) (h1 : p ≤ 10000000) : ∃ s, Qd5 p f = some s ∧ QbW p f = some s ∧ ((¬ (1 ≤ f ∧ f ≤ 999) ∧ s = [⟨0, p⟩]) ∨ (1 ≤ f ∧ ∃ a b, s = [⟨f, a⟩, ⟨0, b⟩])) := by
 obtain ⟨s, s1, s2, s3⟩ := Qyq p f h0 h1
 refine ⟨s, s1, s2, ?_⟩
 rcases s3 with h | ⟨h, a, b, _, e⟩
 ·exact .inl h
 ·exact .inr ⟨h, a, b, e⟩
end Go.Proofs.YtponohekgnklkaaGreat
namespace Go.Proofs.YtponohekgnklkaaGreat
open Go
set_option linter.unusedVariables false
set_option linter.unusedSimpArgs false
theorem QvA (l : List Find) (hl : l.length ≤ 1048576) (h : Xl l = some true) : ∀ i (hi : i < l.length), 0 ≤ l[i].Finder ∧ l[i].Finder ≤ 999 := by
 have hb : ∀ f : Find, X2 f = some true → 0 ≤ f.Finder ∧ f.Finder ≤ 999 := by
  intro f hf
  obtain ⟨b, b1, _, _⟩ := Qjx f.Thing
  unfold X2 Qe at hf
  rw [b1] at hf
  simp only [Option.bind_some] at hf
  revert hf
  cases b <;> cases (decide (1 ≤ f.Place) && decide (f.Place ≤ 30)) <;> cases (decide (0 ≤ f.At) && decide (f.At ≤ 100000)) <;> simp
 intro i hi
 obtain ⟨b, h1, h2, h3⟩ := QdQ (n := l.length) (r := false) (s1 := Vh l) (s2 := Vh l) (fun i hi _ => by
   obtain ⟨b, q1, q2, _⟩ := QiZ l[i]
   simp only [Vh, Qx hi, Qg hi, Qw hi, QL (show (i : Int) < 9223372036854775807 by omega), cond_true, Qa, q1, Option.bind_some]
   by_cases h0 : 0 < i
   ·simp only [show decide (0 < (i : Int)) = true from decide_eq_true (by omega), Qae h0 (by omega), Qg (show i - 1 < l.length by omega), cond_true, Qa]
    cases b <;> cases decide (l[i].Thing.Id ≤ (gt l ((i - 1 : Nat) : Int)).Thing.Id) <;> first | exact ⟨true, rfl, rfl⟩ | exact ⟨false, rfl, rfl⟩
   ·simp only [show decide (0 < (i : Int)) = false from decide_eq_false (by omega), cond_false]
    cases b <;> first | exact ⟨true, rfl, rfl⟩ | exact ⟨false, rfl, rfl⟩)
  (by simp only [Vh, QI (Nat.le_refl _), cond_false]) (by simp only [Vh, QI (Nat.le_refl _), cond_false])
 have he := (QaG (n := l.length) (k := 20) _ h1).1
 have hb' : b = true := by
  unfold Xl at h
  rw [show (ln l : Int) = (l.length : Int) from rfl] at h
  rw [he] at h
  simp at h
  exact h.1
 have hstep := (h3 hb' i hi).1
 obtain ⟨c, q1, q2, q3⟩ := QiZ l[i]
 simp only [Vh, Qx hi, Qg hi, Qw hi, cond_true, Qa, q1, Option.bind_some] at hstep
 cases c with
 | true => exact hb _ q1
 | false => simp at hstep
theorem pay (h : House) (a b c : Int) (hm : Qh h) : ∃ r, Qbi h.Book ⟨a, b, c, h.Now⟩ = some r ∧ J3 h.Book ⟨a, b, c, h.Now⟩ = some r ∧ r.1.length ≤ 1048576 ∧
  ZW h a b c = some (bif decide (c = 0) then (h, true) else (⟨h.No, h.Finds, h.Secrets, h.Slots, h.Claims, h.Trials, h.Chain, r.1, h.Now⟩, r.2)) := by
 obtain ⟨r, r1, r2, r3⟩ := QrB h.Book ⟨a, b, c, h.Now⟩ hm.2.2.2.2.2.2
 refine ⟨r, r1, r2, r3, ?_⟩
 unfold ZW
 rw [r1]
 cases decide (c = 0) <;> rfl
theorem Qne (h x : House) (b : Bool) (hm : Qh h) (hx : Qh x) : ((Qq h x b).bind fun r => some (r.1, r.2)) = some (Qcf h x b) := by
 rw [QcU h x b hm hx]; rfl
theorem Qy6 (h : House) (t : Int) (l : List Bid) (hm : Qh h) (hl : l.length ≤ 1048576) : ∃ r, Qco h t l = some r ∧ Qcm h t l = some r ∧ Qh r.1 := by
 have hm7 := hm
 obtain ⟨m1, m2, m3, m4, m5, m6, m7⟩ := hm7
 obtain ⟨w, w1, w2⟩ := QeD h.Slots t m3
 obtain ⟨⟨who, price⟩, p1, p2, p3⟩ := QHG l hl
 unfold Qco Qcm QaE
 simp only [p1, p2, (Jw h.Finds t m1).1, (Jw h.Finds t m1).2, (XH h hm).1, (XH h hm).2, XL h hm, X9 h hm, w1, w2, Option.bind_some]
 rcases QkD h.Finds t with hx | ⟨k, hk, hx⟩
 ·rw [hx]
  refine ⟨(h, false), rfl, ?_, hm⟩
  cases X4 h <;> rfl
 ·rw [hx, decide_eq_false (show ¬ (k : Int) < 0 by omega)]
  rcases p3 with p3 | ⟨q1, q2, q3⟩
  ·injection p3 with e1 e2
   subst e1 e2
   refine ⟨(h, false), rfl, ?_, hm⟩
   cases X4 h with
   | false => rfl
   | true =>
    cases Qbl h.Slots t with
    | false => rfl
    | true => simp only [Qg hk, Qa]; rfl
  ·simp only at q1 q2 q3
   rw [show decide (who = 0) = false from decide_eq_false (by omega)]
   cases hb : X4 h with
   | false => exact ⟨(h, false), rfl, rfl, hm⟩
   | true =>
    have ho := Qhe h hm hb
    obtain ⟨f, f1, f2⟩ := Qyf h.Finds[k] h.Claims h.Now m4
    have hfin := QvA h.Finds m1 ho.fS k hk
    obtain ⟨g, g1, g2, g3, g4, g5, g6, g7⟩ := QoY h t 4 who hm
    simp only [cond_false, Bool.not_true, Option.bind_some, Qg hk, Qw hk, Qa, f1]
    by_cases hf : f = 3
    ·subst hf
     obtain ⟨s, s1, s2, s3⟩ := QAE price h.Finds[k].Finder (by omega) (by omega)
     obtain ⟨e, e1, e2, e3, e4⟩ := pay g.1 who 0 price g3
     rw [g5, g6] at e1 e2
     have hpr : decide (price = 0) = false := decide_eq_false (by omega)
     rw [hpr] at e4
     have n := g3
     obtain ⟨n1, n2, n3, n4, n5, n6, n7⟩ := n
     have o1 : Qh ⟨g.1.No, g.1.Finds, g.1.Secrets, g.1.Slots, g.1.Claims, g.1.Trials, g.1.Chain, e.1, g.1.Now⟩ := ⟨n1, n2, n3, n4, n5, n6, e3⟩
     simp only [decide_true, Bool.not_true, cond_false, g1, e4, s1, Option.bind_some]
     rcases s3 with ⟨hno, rfl⟩ | ⟨hyes, a, b, rfl⟩
     ·have hf0 : h.Finds[k].Finder = 0 := by omega
      have hspec : (bif decide (ln ([⟨0, price⟩] : List Share) = 2) then (none : Option (House × Bool)) else some (h, false)) = some (h, false) := rfl
      simp only [show decide (ln ([⟨0, price⟩] : List Share) = 2) = false from rfl, cond_false, Qne h _ _ hm o1]
      refine ⟨Qcf h ⟨g.1.No, g.1.Finds, g.1.Secrets, g.1.Slots, g.1.Claims, g.1.Trials, g.1.Chain, e.1, g.1.Now⟩ (g.2 && e.2), ?_, ?_, Qam _ _ _ hm o1⟩
      ·cases g.2 <;> rfl
      ·cases hi : Qbl h.Slots t with
       | false => rw [g4 hi]; rfl
       | true =>
        simp only [Bool.not_true, cond_false, Qg hk, Qw hk, Qa, f2, Option.bind_some, decide_true, Bool.not_true, g2, e2, s2, show decide (h.Finds[k].Finder = 0) = true from decide_eq_true hf0]
        cases e.2 <;> simp only [cond_true, cond_false, Bool.not_true, Option.bind_some, Qbt h _ _ hm o1 (show [g.2, true, true].length ≤ 1048576 by simp), Qbt h _ _ hm o1 (show [g.2, false, true].length ≤ 1048576 by simp), List.all_cons, List.all_nil, Bool.and_true, id_eq]
     ·have hf0 : decide (h.Finds[k].Finder = 0) = false := decide_eq_false (by omega)
      obtain ⟨d, d1, d2, d3, d4⟩ := pay ⟨g.1.No, g.1.Finds, g.1.Secrets, g.1.Slots, g.1.Claims, g.1.Trials, g.1.Chain, e.1, g.1.Now⟩ 0 h.Finds[k].Finder a o1
      simp only [g6] at d1 d2
      have o2 : Qh ⟨g.1.No, g.1.Finds, g.1.Secrets, g.1.Slots, g.1.Claims, g.1.Trials, g.1.Chain, d.1, g.1.Now⟩ := ⟨n1, n2, n3, n4, n5, n6, d3⟩
      simp only [show decide (ln ([⟨h.Finds[k].Finder, a⟩, ⟨0, b⟩] : List Share) = 2) = true from rfl, cond_true, show inb ([⟨h.Finds[k].Finder, a⟩, ⟨0, b⟩] : List Share) 0 = true from rfl, Qa, show gt ([⟨h.Finds[k].Finder, a⟩, ⟨0, b⟩] : List Share) 0 = ⟨h.Finds[k].Finder, a⟩ from rfl, d4, Option.bind_some]
      refine ⟨bif decide (a = 0) then Qcf h ⟨g.1.No, g.1.Finds, g.1.Secrets, g.1.Slots, g.1.Claims, g.1.Trials, g.1.Chain, e.1, g.1.Now⟩ (g.2 && e.2) else Qcf h ⟨g.1.No, g.1.Finds, g.1.Secrets, g.1.Slots, g.1.Claims, g.1.Trials, g.1.Chain, d.1, g.1.Now⟩ (g.2 && (e.2 && d.2)), ?_, ?_, ?_⟩
      ·cases decide (a = 0) with
       | true => simp only [cond_true, Qne h _ _ hm o1]; cases g.2 <;> cases e.2 <;> rfl
       | false => simp only [cond_false, Qne h _ _ hm o2]; cases g.2 <;> cases e.2 <;> rfl
      ·cases hi : Qbl h.Slots t with
       | false =>
        rw [g4 hi]
        simp only [Bool.not_false, Bool.false_and, QeQ]
        cases decide (a = 0) <;> rfl
       | true =>
        simp only [Bool.not_true, cond_false, Qg hk, Qw hk, Qa, f2, Option.bind_some, decide_true, Bool.not_true, g2, e2, s2, hf0, Bool.not_false, show inb ([⟨h.Finds[k].Finder, a⟩, ⟨0, b⟩] : List Share) 0 = true from rfl, show gt ([⟨h.Finds[k].Finder, a⟩, ⟨0, b⟩] : List Share) 0 = ⟨h.Finds[k].Finder, a⟩ from rfl, cond_true]
        cases he : e.2 with
        | false =>
         simp only [cond_false, Option.bind_some, Qbt h _ _ hm o1 (show [g.2, false, true].length ≤ 1048576 by simp), List.all_cons, List.all_nil, Bool.and_true, id_eq, Bool.false_and, Bool.and_false, QeQ]
         cases decide (a = 0) <;> rfl
        | true =>
         cases ha : decide (a = 0) with
         | true => simp only [cond_true, cond_false, Bool.not_true, Option.bind_some, Qbt h _ _ hm o1 (show [g.2, true, true].length ≤ 1048576 by simp), List.all_cons, List.all_nil, Bool.and_true, id_eq]
         | false => simp only [cond_true, cond_false, Bool.not_false, Option.bind_some, d2, Qbt h _ _ hm o2 (show [g.2, true, d.2].length ≤ 1048576 by simp), List.all_cons, List.all_nil, Bool.and_true, Bool.true_and, id_eq]
      ·cases decide (a = 0) with
       | true => exact Qam _ _ _ hm o1
       | false => exact Qam _ _ _ hm o2
    ·simp only [decide_eq_false hf, Bool.not_false, cond_true]
     refine ⟨(h, false), rfl, ?_, hm⟩
     cases Qbl h.Slots t with
     | false => rfl
     | true => simp only [Bool.not_true, cond_false, Qg hk, Qw hk, Qa, f2, Option.bind_some, decide_eq_false hf, Bool.not_false, cond_true]
end Go.Proofs.YtponohekgnklkaaGreat
namespace Go.Proofs.YtponohekgnklkaaGreat
open Go
set_option linter.unusedVariables false
set_option linter.unusedSimpArgs false
theorem Qh6 (h : House) (e : Event) (hm : Qh h) (he : JQ e) : ∃ r, Xr h e = some r ∧ ZL h e = some r ∧ Qh r.1 := by
 obtain ⟨a1, b1, c1, d1⟩ := QpZ h e.Find e.Marks e.N hm he.1
 obtain ⟨a2, b2, c2, d2⟩ := QoC h e.Id e.Who e.N hm
 obtain ⟨a3, b3, c3, d3⟩ := Qh7 h e.Id e.N hm
 obtain ⟨a4, b4, c4, d4⟩ := Qoj h e.N hm
 obtain ⟨a5, b5, c5, d5⟩ := Qy6 h e.N e.Bids hm he.2
 obtain ⟨a6, b6, c6, d6⟩ := Qvd h e.N hm
 obtain ⟨a7, b7, c7, d7⟩ := Qqz h e.N hm
 unfold Xr ZL
 rw [b1, c1, b2, c2, b3, c3, b4, c4, b5, c5, b6, c6, b7, c7, XL h hm, X9 h hm]
 cases decide (e.Kind = 1) with
 | true => exact ⟨a1, rfl, rfl, d1⟩
 | false =>
 cases decide (e.Kind = 2) with
 | true => exact ⟨a2, rfl, rfl, d2⟩
 | false =>
 cases decide (e.Kind = 3) with
 | true => exact ⟨a3, rfl, rfl, d3⟩
 | false =>
 cases decide (e.Kind = 4) with
 | true => exact ⟨a4, rfl, rfl, d4⟩
 | false =>
 cases decide (e.Kind = 5) with
 | true => exact ⟨a5, rfl, rfl, d5⟩
 | false =>
 cases decide (e.Kind = 6) with
 | true => exact ⟨a6, rfl, rfl, d6⟩
 | false =>
 cases decide (e.Kind = 7) with
 | true => exact ⟨a7, rfl, rfl, d7⟩
 | false => exact ⟨(h, false), rfl, rfl, hm⟩
end Go.Proofs.YtponohekgnklkaaGreat
namespace Go.Proofs.YtponohekgnklkaaGreat
open Go
set_option linter.unusedVariables false
set_option linter.unusedSimpArgs false
def Q (a : House) (r : House × Bool) : Prop := (r.2 = true → Q8 a = some true ∧ Q8 r.1 = some true) ∧ (r.2 = false → r.1 = a)
def Qd (a : House) (x : Option (House × Bool)) : Prop := ∀ r, x = some r → Q a r
theorem Qd.bind {A : Type} {a : House} {o : Option A} {k : A → Option (House × Bool)} (h : ∀ y, Qd a (k y)) : Qd a (o.bind k) := fun r hr => by
 obtain ⟨y, _, hy⟩ := Option.bind_eq_some_iff.1 hr
 exact h y r hy
theorem Qd.cond {a : House} {b : Bool} {x y : Option (House × Bool)} (hx : Qd a x) (hy : Qd a y) : Qd a (bif b then x else y) := by
 cases b with
 | true => exact hx
 | false => exact hy
theorem Qd.nd {a : House} {b : Bool} {x : Option (House × Bool)} (hx : Qd a x) : Qd a (nd b <| x) := by
 cases b with
 | true => exact hx
 | false => intro r hr; cases hr
theorem Qd.none {a : House} : Qd a none := fun r hr => by cases hr
theorem Qd.self {a : House} : Qd a (some (a, false)) := fun r hr => by
 injection hr with hr; subst hr
 exact ⟨fun h => (by cases h), fun _ => rfl⟩
theorem Qd.done {a o : House} {o2 : Bool} (hm : Qh a) : Qd a ((Qq a o o2).bind fun r => some (r.1, r.2)) := fun r hr => by
 obtain ⟨y, hy, e⟩ := Option.bind_eq_some_iff.1 hr
 injection e with e; subst e
 unfold Qq at hy
 obtain ⟨b, hb, hy⟩ := Option.bind_eq_some_iff.1 hy
 cases b with
 | true =>
  rw [XL a hm] at hy
  simp only [cond_true, Option.bind_some] at hy
  injection hy with hy; subst hy
  exact ⟨fun h => (by cases h), fun _ => rfl⟩
 | false =>
  simp only [cond_false] at hy
  injection hy with hy; subst hy
  refine ⟨fun _ => ?_, fun h => (by cases h)⟩
  cases o2 with
  | false => cases hb
  | true =>
   simp only [Bool.not_true, cond_false] at hb
   obtain ⟨r1, h1, hb⟩ := Option.bind_eq_some_iff.1 hb
   cases r1 with
   | false => cases hb
   | true =>
    simp only [Bool.not_true, cond_false] at hb
    obtain ⟨r2, h2, hb⟩ := Option.bind_eq_some_iff.1 hb
    cases r2 with
    | false => cases hb
    | true => exact ⟨h1, h2⟩
theorem Qwa (a : House) (f : Find) (m : List Mark) (s : Int) (hm : Qh a) : Qd a (J4 a f m s) := by
 unfold J4
 simp only [XL a hm, Option.bind_some]
 repeat (first | exact Qd.done hm | exact Qd.self | refine Qd.bind fun _ => ?_ | refine Qd.nd ?_ | refine Qd.cond ?_ ?_ | exact Qd.none)
theorem Qsi (a : House) (x y z : Int) (hm : Qh a) : Qd a (Xj a x y z) := by
 unfold Xj
 simp only [XL a hm, Option.bind_some]
 repeat (first | exact Qd.done hm | exact Qd.self | refine Qd.bind fun _ => ?_ | refine Qd.nd ?_ | refine Qd.cond ?_ ?_ | exact Qd.none)
theorem QqZ (a : House) (x y : Int) (hm : Qh a) : Qd a (VR a x y) := by
 unfold VR
 simp only [XL a hm, Option.bind_some]
 repeat (first | exact Qd.done hm | exact Qd.self | refine Qd.bind fun _ => ?_ | refine Qd.nd ?_ | refine Qd.cond ?_ ?_ | exact Qd.none)
theorem Qr3 (a : House) (x : Int) (hm : Qh a) : Qd a (XW a x) := by
 unfold XW
 simp only [XL a hm, Option.bind_some]
 repeat (first | exact Qd.done hm | exact Qd.self | refine Qd.bind fun _ => ?_ | refine Qd.nd ?_ | refine Qd.cond ?_ ?_ | exact Qd.none)
theorem QvE (a : House) (x : Int) (l : List Bid) (hm : Qh a) : Qd a (Qco a x l) := by
 unfold Qco
 simp only [XL a hm, Option.bind_some]
 repeat (first | exact Qd.done hm | exact Qd.self | refine Qd.bind fun _ => ?_ | refine Qd.nd ?_ | refine Qd.cond ?_ ?_ | exact Qd.none)
theorem Qs5 (a : House) (x : Int) (hm : Qh a) : Qd a (Qbz a x) := by
 unfold Qbz
 simp only [XL a hm, Option.bind_some]
 repeat (first | exact Qd.done hm | exact Qd.self | refine Qd.bind fun _ => ?_ | refine Qd.nd ?_ | refine Qd.cond ?_ ?_ | exact Qd.none)
theorem Qwk (a : House) (x : Int) (hm : Qh a) : Qd a (Jk a x) := by
 unfold Jk
 simp only [XL a hm, Option.bind_some]
 repeat (first | exact Qd.done hm | exact Qd.self | refine Qd.bind fun _ => ?_ | refine Qd.nd ?_ | refine Qd.cond ?_ ?_ | exact Qd.none)
theorem Qd.pair {a : House} {o : Option (House × Bool)} (h : Qd a o) : Qd a (o.bind fun r => some (r.1, r.2)) := fun r hr => by
 obtain ⟨y, hy, e⟩ := Option.bind_eq_some_iff.1 hr
 injection e with e; subst e
 exact h y hy
theorem QkW (a : House) (e : Event) (hm : Qh a) : Qd a (Xr a e) := by
 unfold Xr
 simp only [XL a hm, Option.bind_some]
 exact Qd.cond (Qwa a _ _ _ hm).pair (Qd.cond (Qsi a _ _ _ hm).pair (Qd.cond (QqZ a _ _ hm).pair (Qd.cond (Qr3 a _ hm).pair (Qd.cond (QvE a _ _ hm).pair (Qd.cond (Qs5 a _ hm).pair (Qd.cond (Qwk a _ hm).pair Qd.self))))))
theorem QpV (a : House) (e : Event) (hm : Qh a) (hv : Q8 a = some true) {r : House × Bool} (h : Xr a e = some r) : Q8 r.1 = some true := by
 obtain ⟨h1, h2⟩ := QkW a e hm r h
 cases hb : r.2 with
 | true => exact (h1 hb).2
 | false => rw [h2 hb]; exact hv
end Go.Proofs.YtponohekgnklkaaGreat
