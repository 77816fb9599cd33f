import Derived.Test.YtcdffihcfeajfaaGreatPyIsH3
namespace Go.Proofs.YtcdffihcfeajfaaGreat
open Go
set_option linter.unusedVariables false
set_option linter.unusedSimpArgs false
section
variable {ρ : Type}
def qa (q : Nat → Bool) : Nat → Nat → Bool
 | _, 0 => true
 | i, m + 1 => q i && qa q (i + 1) m
theorem Qp4 {α : Type} [Inhabited α] (l : List α) (f : α → Bool) : ∀ (m i : Nat), i + m = l.length → qa (fun i => f (gt l (i : Int))) i m = (l.drop i).all f
 | 0, i, h => by
  have : i = l.length := by omega
  subst this
  rw [List.drop_length]; rfl
 | m + 1, i, h => by
  have hlt : i < l.length := by omega
  rw [qa, Qp4 l f m (i + 1) (by omega), List.drop_eq_getElem_cons hlt, List.all_cons, Qz hlt]
theorem QoM {n : Nat} {r : ρ} {s1 s2 : Int → Option (Int ⊕ (Fl ρ Unit))} (q : Nat → Bool)
  (h : ∀ i, i < n → ∃ b, s1 (i : Int) = some (bif b then .inl ((i + 1 : Nat) : Int) else .inr (.ret r)) ∧ s2 (i : Int) = some (bif b && q i then .inl ((i + 1 : Nat) : Int) else .inr (.ret r)))
  (e1 : s1 (n : Int) = some (.inr (.brk ()))) (e2 : s2 (n : Int) = some (.inr (.brk ()))) :
  ∃ b, run s1 0 = some (bif b then .brk () else .ret r) ∧ run s2 0 = some (bif b && qa q 0 n then .brk () else .ret r) := by
 have key : ∀ (m i : Nat), i + m = n → ∃ b, run s1 (i : Int) = some (bif b then .brk () else .ret r) ∧ run s2 (i : Int) = some (bif b && qa q i m then .brk () else .ret r) := by
  intro m
  induction m with
  | zero =>
   intro i hi
   have : i = n := by omega
   subst this
   exact ⟨true, by rw [Qs, e1]; rfl, by rw [Qs, e2]; rfl⟩
  | succ m ih =>
   intro i hi
   obtain ⟨b, h1, h2⟩ := h i (by omega)
   cases b with
   | false => exact ⟨false, by rw [Qs, h1]; rfl, by rw [Qs, h2]; rfl⟩
   | true =>
    obtain ⟨b', q1, q2⟩ := ih (i + 1) (by omega)
    refine ⟨b', by rw [Qs, h1]; exact q1, ?_⟩
    rw [Qs, h2, qa]
    cases q i with
    | false => cases b' <;> rfl
    | true => exact q2
 exact key n 0 (by omega)
end
theorem QwK {α : Type} {a b : List α} (p : α → Bool) (h : ∀ t, t ∈ a ↔ t ∈ b) : a.all p = b.all p := by
 rw [Bool.eq_iff_iff, List.all_eq_true, List.all_eq_true]
 exact ⟨fun h1 x hx => h1 x ((h x).2 hx), fun h1 x hx => h1 x ((h x).1 hx)⟩
theorem Qfz {α : Type} (l : List α) (hour : α → Int) (now : Int) : l.all (fun x => !decide (now < hour x)) = true ↔ ∀ x ∈ l, hour x ≤ now := by
 rw [List.all_eq_true]
 constructor
 ·intro h x hx
  have := h x hx
  simp at this
  exact this
 ·intro h x hx
  have := h x hx
  simp
  exact this
theorem Qt2 {α : Type} (l : List α) (hour : α → Int) (h : ∀ k (hk : k < l.length) (h0 : 0 < k), hour (l[k - 1]'(by omega)) ≤ hour l[k]) (now : Int) (hn : 0 < l.length) :
  (∀ x ∈ l, hour x ≤ now) ↔ hour (l[l.length - 1]'(by omega)) ≤ now := by
 have key : ∀ (d i : Nat) (hj : i + d < l.length), hour (l[i]'(by omega)) ≤ hour l[i + d] := by
  intro d
  induction d with
  | zero => intro i hj; exact Int.le_refl _
  | succ d ih =>
   intro i hj
   have h1 := ih i (by omega)
   have h2 := h (i + (d + 1)) hj (by omega)
   have e : (l[i + (d + 1) - 1]'(by omega)) = l[i + d] := by congr 1
   rw [e] at h2
   omega
 constructor
 ·intro hx; exact hx _ (List.getElem_mem _)
 ·intro hl x hx
  obtain ⟨i, hi, rfl⟩ := List.getElem_of_mem hx
  have := key (l.length - 1 - i) i (by omega)
  have e : (l[i + (l.length - 1 - i)]'(by omega)) = (l[l.length - 1]'(by omega)) := by congr 1; omega
  rw [e] at this
  omega
theorem kept (h : House) (m1 : h.Finds.length ≤ 1048576) (m3 : h.Slots.length ≤ 1048576) (m6 : h.Chain.length ≤ 100) (hf : ∀ i (hi : i < h.Finds.length), 1 ≤ h.Finds[i].Thing.Id) (hs : ∀ x ∈ h.Slots, 1 ≤ x.Id)
  (c1 : Vr h.Chain = some true) (c2 : Vp h.Chain = some true) :
  ∃ k, Zq h = some k ∧ J7 h = some (k && h.Finds.all (fun x => !decide (h.Now < x.At))) := by
 by_cases hlen : h.Secrets.length = h.Finds.length
 ·have hd : (!decide (ln h.Secrets = ln h.Finds)) = false := by rw [Vg, Vg, hlen]; simp
  obtain ⟨r1, r2, i1, i2, hmem, l1, l2⟩ := Qwr h.Chain h.No m6 c1 c2
  unfold Zq J7
  rw [hd, i1, i2]
  simp only [cond_false, Option.bind_some]
  obtain ⟨b, a1, a2⟩ := QoM (n := h.Finds.length) (r := false) (s1 := Jt h r2 h.Finds (ln h.Finds)) (s2 := VW h r1) (fun i => !decide (h.Now < (gt h.Finds (i : Int)).At)) (fun i hi => by
    have hi2 : i < h.Secrets.length := by omega
    obtain ⟨c, q1, q2⟩ := QwB h.Slots h.Finds[i].Thing.Id m3 hs
    have hid := hf i hi
    have hne : decide (h.Finds[i].Thing.Id = 0) = false := decide_eq_false (by omega)
    have hsame : decide (h.Finds[i].Thing.Id ∈ r1) = decide (h.Finds[i].Thing.Id ∈ r2) := by rw [decide_eq_decide]; exact hmem _
    have hix : decide (0 ≤ Qc4 h.Slots h.Finds[i].Thing.Id) = h.Slots.any (fun x => decide (x.Thing = h.Finds[i].Thing.Id)) := by
     rcases Qgx h.Slots h.Finds[i].Thing.Id with ⟨p1, p2⟩ | ⟨k, _, p1, _, p3⟩
     ·rw [p1, p2]; rfl
     ·rw [p1, p3]; exact decide_eq_true (by omega)
    rw [hne] at q2
    simp only [Jt, VW, Qu hi, Qg hi, Qz hi, Qg hi2, Qz hi2, QP (show (i : Int) < 9223372036854775807 by omega), cond_true, Qa, q1, q2, Qht h.Slots _ m3, hne, cond_false, QRc r1 _ (by omega), QNG r2 _ (by omega), hsame, hix, Option.bind_some, Bool.not_false, Bool.true_and, Bool.not_not]
    cases decide (h.Secrets[i].Thing = h.Finds[i].Thing.Id) <;> cases decide (h.Slots.any (fun x => decide (x.Thing = h.Finds[i].Thing.Id)) = decide (h.Finds[i].Thing.Id ∈ r2)) <;> cases decide (h.Now < h.Finds[i].At) <;> first | exact ⟨true, rfl, rfl⟩ | exact ⟨false, rfl, rfl⟩)
   (by simp only [Jt, Qx (Nat.le_refl _), cond_false]) (by simp only [VW, Qx (Nat.le_refl _), cond_false])
  have hqa : qa (fun i => !decide (h.Now < (gt h.Finds (i : Int)).At)) 0 h.Finds.length = h.Finds.all (fun x => !decide (h.Now < x.At)) := by
   have := Qp4 h.Finds (fun x => !decide (h.Now < x.At)) h.Finds.length 0 (by omega)
   rw [this]; rfl
  rw [hqa] at a2
  have s3 := QgQ h.Slots (fun x => decide (x.Thing = 0) || !decide (Z8 h.Finds x.Thing < 0)) (r := false) (step := VU h)
   (fun i hi => by
    simp only [VU, Qu hi, Qg hi, Qz hi, QP (show (i : Int) < 9223372036854775807 by omega), cond_true, Qa, (Qbg h.Finds _ m1).1, Option.bind_some]
    cases decide (h.Slots[i].Thing = 0) <;> cases decide (Z8 h.Finds h.Slots[i].Thing < 0) <;> rfl)
   (by simp only [VU, Qx (Nat.le_refl _), cond_false])
  have t3 := QgQ h.Slots (fun x => decide (x.Thing = 0) || !decide (Z8 h.Finds x.Thing < 0)) (r := false) (step := X0 h r2 h.Slots (ln h.Slots))
   (fun i hi => by
    simp only [X0, Qu hi, Qg hi, Qz hi, QP (show (i : Int) < 9223372036854775807 by omega), cond_true, Qa, (Qbg h.Finds _ m1).2, Option.bind_some]
    cases decide (h.Slots[i].Thing = 0) <;> cases decide (Z8 h.Finds h.Slots[i].Thing < 0) <;> rfl)
   (by simp only [X0, Qx (Nat.le_refl _), cond_false])
  have s4 := QgQ r1 (fun t => !decide (Z8 h.Finds t < 0)) (r := false) (step := Xw h r1)
   (fun i hi => by
    simp only [Xw, Qu hi, Qg hi, Qz hi, QP (show (i : Int) < 9223372036854775807 by omega), cond_true, Qa, (Qbg h.Finds _ m1).1, Option.bind_some]
    cases decide (Z8 h.Finds r1[i] < 0) <;> rfl)
   (by simp only [Xw, Qx (Nat.le_refl _), cond_false])
  have t4 := QgQ r2 (fun t => !decide (Z8 h.Finds t < 0)) (r := false) (step := X4 h r2 (ln r2))
   (fun i hi => by
    simp only [X4, Qu hi, Qg hi, Qz hi, QP (show (i : Int) < 9223372036854775807 by omega), cond_true, Qa, (Qbg h.Finds _ m1).2, Option.bind_some]
    cases decide (Z8 h.Finds r2[i] < 0) <;> rfl)
   (by simp only [X4, Qx (Nat.le_refl _), cond_false])
  rw [QwK _ hmem] at s4
  rw [a1, a2, s3, t3, s4, t4]
  generalize h.Finds.all (fun x => !decide (h.Now < x.At)) = fa
  generalize h.Slots.all (fun x => decide (x.Thing = 0) || !decide (Z8 h.Finds x.Thing < 0)) = sa
  generalize r2.all (fun t => !decide (Z8 h.Finds t < 0)) = ra
  cases b <;> cases fa <;> cases sa <;> cases ra <;> first | exact ⟨true, rfl, rfl⟩ | exact ⟨false, rfl, rfl⟩
 ·have hd : (!decide (ln h.Secrets = ln h.Finds)) = true := by rw [Vg, Vg]; simp; omega
  unfold Zq J7
  rw [hd]
  exact ⟨false, rfl, rfl⟩
theorem wanted (s : Int) (h0 : 0 ≤ s) (h1 : s ≤ 3) : inb [0, 1, 2, 1] s = true ∧ Qdi s = some (gt ([0, 1, 2, 1] : List Int) s) := by
 have : s = 0 ∨ s = 1 ∨ s = 2 ∨ s = 3 := by omega
 rcases this with rfl | rfl | rfl | rfl <;> exact ⟨rfl, rfl⟩
theorem trials (h : House) (m1 : h.Finds.length ≤ 1048576) (m2 : h.Secrets.length ≤ 1048576) (mm : ∀ x ∈ h.Secrets, x.Marks.length ≤ 1048576) (m4 : h.Claims.length ≤ 1048576) (hst : ∀ i (hi : i < h.Claims.length), 0 ≤ h.Claims[i].State ∧ h.Claims[i].State ≤ 3) :
  ∃ k, Jh h = some k ∧ Ze h = some (k && h.Claims.all (fun x => !decide (h.Now < x.At))) := by
 by_cases hlen : h.Trials.length = h.Claims.length
 ·have hd : (!decide (ln h.Trials = ln h.Claims)) = false := by rw [Vg, Vg, hlen]; simp
  unfold Jh Ze
  rw [hd]
  simp only [cond_false]
  obtain ⟨b, a1, a2⟩ := QoM (n := h.Claims.length) (r := false) (s1 := Xs h h.Claims (ln h.Claims)) (s2 := XF h) (fun i => !decide (h.Now < (gt h.Claims (i : Int)).At)) (fun i hi => by
    have hi2 : i < h.Trials.length := by omega
    obtain ⟨w1, w2⟩ := wanted h.Claims[i].State (hst i hi).1 (hst i hi).2
    obtain ⟨t, t1, t2⟩ := Qo1 h.Trials[i]
    obtain ⟨m, k1, k2, k3⟩ := Qxg h.Secrets h.Claims[i].Thing m2 mm
    obtain ⟨c, s1, s2⟩ := Qqn m h.Trials[i] k3
    simp only [Xs, XF, Qu hi, Qg hi, Qz hi, Qg hi2, Qz hi2, QP (show (i : Int) < 9223372036854775807 by omega), cond_true, Qa, w1, w2, t1, t2, k1, k2, s1, s2, (Qbg h.Finds _ m1).1, (Qbg h.Finds _ m1).2, Option.bind_some]
    cases decide (Z8 h.Finds h.Claims[i].Thing < 0) <;> cases decide (h.Trials[i].Claim = h.Claims[i].Id) <;> cases t <;> cases decide (c = gt [0, 1, 2, 1] h.Claims[i].State) <;> cases decide (h.Now < h.Claims[i].At) <;> first | exact ⟨true, rfl, rfl⟩ | exact ⟨false, rfl, rfl⟩)
   (by simp only [Xs, Qx (Nat.le_refl _), cond_false]) (by simp only [XF, Qx (Nat.le_refl _), cond_false])
  have hqa : qa (fun i => !decide (h.Now < (gt h.Claims (i : Int)).At)) 0 h.Claims.length = h.Claims.all (fun x => !decide (h.Now < x.At)) := by
   have := Qp4 h.Claims (fun x => !decide (h.Now < x.At)) h.Claims.length 0 (by omega)
   rw [this]; rfl
  rw [hqa] at a2
  rw [a1, a2]
  generalize h.Claims.all (fun x => !decide (h.Now < x.At)) = fa
  cases b <;> cases fa <;> first | exact ⟨true, rfl, rfl⟩ | exact ⟨false, rfl, rfl⟩
 ·have hd : (!decide (ln h.Trials = ln h.Claims)) = true := by rw [Vg, Vg]; simp; omega
  unfold Jh Ze
  rw [hd]
  exact ⟨false, rfl, rfl⟩
theorem QmI {α : Type} [Inhabited α] (l : List α) (hour : α → Int) (hl : l.length ≤ 1048576) (h : ∀ k (hk : k < l.length) (h0 : 0 < k), hour (l[k - 1]'(by omega)) ≤ hour l[k]) (now : Int) {β : Type} (rest : Option Bool) :
  (bif decide (0 < ln l) then nd (inb l (w64 (ln l - 1))) <| (bif decide (now < hour (gt l (w64 (ln l - 1)))) then some true else rest) else rest) = (bif l.all (fun x => !decide (now < hour x)) then rest else some true) := by
 by_cases hn : 0 < l.length
 ·have hlast : l.length - 1 < l.length := by omega
  have e : w64 (ln l - 1) = ((l.length - 1 : Nat) : Int) := by rw [Vg, Vd] <;> omega
  rw [decide_eq_true (show 0 < ln l by rw [Vg]; omega), e, Qg hlast, Qz hlast]
  simp only [cond_true, Qa]
  have hiff := Qt2 l hour h now hn
  by_cases hlt : now < hour l[l.length - 1]
  ·have : l.all (fun x => !decide (now < hour x)) = false := by
    rw [Bool.eq_false_iff]
    intro ha
    have := (Qfz l hour now).1 ha _ (List.getElem_mem hlast)
    omega
   rw [decide_eq_true hlt, this]; rfl
  ·have : l.all (fun x => !decide (now < hour x)) = true := (Qfz l hour now).2 (hiff.2 (by omega))
   rw [decide_eq_false hlt, this]; rfl
 ·have : l = [] := by
   cases l with
   | nil => rfl
   | cons x l => simp at hn
  subst this
  rfl
theorem Qru (h : House) (hm : QZ h) : ∃ c, XS h = some c ∧ Vx h = some c := by
 unfold QZ at hm
 obtain ⟨m1, m2, m3, m4, m5, m6, m7⟩ := hm
 have mm : ∀ x ∈ h.Secrets, x.Marks.length ≤ 1048576 := fun x hx => m2.2 x hx
 have m2' : h.Secrets.length ≤ 1048576 := m2.1
 obtain ⟨f, f1, f2, f3⟩ := Qoh h.Finds m1
 obtain ⟨s, s1, s2⟩ := QkH h.Secrets m2' mm
 obtain ⟨t, t1, t2, t3⟩ := Qpt h.Slots m3
 obtain ⟨c, c1, c2, c3⟩ := QmF h.Claims m4
 obtain ⟨n, n1, n2, n3⟩ := QnT h.Chain
 obtain ⟨e, e1, e2, e3⟩ := Qkq h.Book m7
 unfold XS Vx
 simp only [Qf, Qb, f1, f2, s1, s2, t1, t2, c1, c2, n1, n2, e1, e2, Option.bind_some]
 cases (decide (1 ≤ h.No) && decide (h.No ≤ 9)) with
 | false => exact ⟨false, rfl, rfl⟩
 | true =>
 cases f with
 | false => exact ⟨false, rfl, rfl⟩
 | true =>
 cases s with
 | false => exact ⟨false, rfl, rfl⟩
 | true =>
 cases t with
 | false => exact ⟨false, rfl, rfl⟩
 | true =>
 cases c with
 | false => exact ⟨false, rfl, rfl⟩
 | true =>
 cases n with
 | false => exact ⟨false, rfl, rfl⟩
 | true =>
 cases e with
 | false => exact ⟨false, rfl, rfl⟩
 | true =>
  obtain ⟨k, k1, k2⟩ := kept h m1 m3 (n3 rfl).1 (f3 rfl).2 (t3 rfl).2 n1 n2
  obtain ⟨r, r1, r2⟩ := trials h m1 m2' mm m4 (c3 rfl).2
  obtain ⟨v, v1, v2⟩ := Qup h h.Now m1 m4 m6 m7
  have hch := QmI h.Chain (·.At) m6 (fun i hi h0 => ((n3 rfl).2 i hi).2.2 h0) h.Now (β := Unit)
  have hbk := QmI h.Book (·.At) m7 (fun i hi h0 => (e3 rfl).2 i hi h0) h.Now (β := Unit) (some false)
  have hb0 : (bif decide (0 < ln h.Book) then nd (inb h.Book (w64 (ln h.Book - 1))) <| some (decide (h.Now < (gt h.Book (w64 (ln h.Book - 1))).At)) else some false) = (bif h.Book.all (fun x => !decide (h.Now < x.At)) then some false else some true) := by
   rw [← hbk]
   cases decide (0 < ln h.Book) with
   | false => rfl
   | true =>
    cases inb h.Book (w64 (ln h.Book - 1)) with
    | false => rfl
    | true => cases decide (h.Now < (gt h.Book (w64 (ln h.Book - 1))).At) <;> rfl
  simp only [k1, k2, r1, r2, v1, hb0, hch, Option.bind_some, Bool.not_true, cond_false, cond_true]
  have hv : decide (v ≤ h.Now) = (decide (-1 ≤ h.Now) && (h.Finds.all (fun x => !decide (h.Now < x.At)) && (h.Claims.all (fun x => !decide (h.Now < x.At)) && (h.Chain.all (fun x => !decide (h.Now < x.At)) && h.Book.all (fun x => !decide (h.Now < x.At)))))) := by
   rw [Bool.eq_iff_iff]
   simp only [Bool.and_eq_true, Qfz h.Finds (·.At), Qfz h.Claims (·.At), Qfz h.Chain (·.At), Qfz h.Book (·.At), decide_eq_true_eq]
   exact v2
  rw [hv]
  generalize h.Finds.all (fun x => !decide (h.Now < x.At)) = a1
  generalize h.Claims.all (fun x => !decide (h.Now < x.At)) = a2
  generalize h.Chain.all (fun x => !decide (h.Now < x.At)) = a3
  generalize h.Book.all (fun x => !decide (h.Now < x.At)) = a4
  cases hnow : (decide (0 ≤ h.Now) && decide (h.Now ≤ 100000)) with
  | false => refine ⟨false, rfl, ?_⟩; cases k <;> cases r <;> cases decide (-1 ≤ h.Now) <;> cases a1 <;> cases a2 <;> cases a3 <;> cases a4 <;> rfl
  | true =>
   have h1 : decide (-1 ≤ h.Now) = true := by
    simp only [Bool.and_eq_true, decide_eq_true_eq] at hnow
    exact decide_eq_true (by omega)
   rw [h1]
   cases k <;> cases r <;> cases a1 <;> cases a2 <;> cases a3 <;> cases a4 <;> first | exact ⟨true, rfl, rfl⟩ | exact ⟨false, rfl, rfl⟩
end Go.Proofs.YtcdffihcfeajfaaGreat
