import Derived.Test.YtcdffihcfeajfaaGreatPyIsH2
import Derived.Test.YtcdffihcfeajfaaGreatPyFind
namespace Go.Proofs.YtcdffihcfeajfaaGreat
open Go
set_option linter.unusedVariables false
set_option linter.unusedSimpArgs false
theorem QgZ (l : List Hand) (t : Int) : ∀ (n j : Nat), VA l t n = (j : Int) → j < n ∧ (gt l (j : Int)).Thing = t
 | 0, j, h => by unfold VA at h; omega
 | n + 1, j, h => by
  unfold VA at h
  split at h
  ·rename_i ht
   have : n = j := by omega
   subst this
   exact ⟨by omega, ht⟩
  ·obtain ⟨h1, h2⟩ := QgZ l t n j h
   exact ⟨by omega, h2⟩
theorem Qh5 (l : List Hand) (t : Int) : ∀ (n i : Nat), i < n → (gt l (i : Int)).Thing = t → ∃ j : Nat, j < n ∧ VA l t n = (j : Int)
 | 0, i, hi, _ => by omega
 | n + 1, i, hi, ht => by
  unfold VA
  by_cases hn : (gt l (n : Int)).Thing = t
  ·rw [if_pos hn]; exact ⟨n, by omega, rfl⟩
  ·rw [if_neg hn]
   have : i ≠ n := fun h => by subst h; exact hn ht
   obtain ⟨j, h1, h2⟩ := Qh5 l t n i (by omega) ht
   exact ⟨j, by omega, h2⟩
def hm (l : List Hand) (house t : Int) : Bool := decide ((gt l (VA l t l.length)).Holder = 2) && decide ((gt l (VA l t l.length)).Who = house)
theorem QDY (out : List Int) (x : Int) (hl : out.length ≤ 1000000) : ∃ out', Qa6 out x = some out' ∧ out'.length ≤ out.length + 1 ∧ ∀ t, t ∈ out' ↔ t ∈ out ∨ t = x := by
 have key : ∀ (m i : Nat), i + m = out.length → ∃ k : Nat, k ≤ out.length ∧ run (XT out x) (i : Int) = some (k : Int) := by
  intro m
  induction m with
  | zero =>
   intro i hi
   have : i = out.length := by omega
   subst this
   exact ⟨out.length, Nat.le_refl _, by rw [Qs]; simp only [XT, Qx (Nat.le_refl _), cond_false, Option.bind_some]⟩
  | succ m ih =>
   intro i hi
   have hlt : i < out.length := by omega
   cases hc : decide (out[i] < x) with
   | false => exact ⟨i, by omega, by rw [Qs]; simp only [XT, Qu hlt, Qg hlt, Qz hlt, hc, cond_true, cond_false, Qa, Option.bind_some]⟩
   | true =>
    obtain ⟨k, k1, k2⟩ := ih (i + 1) (by omega)
    refine ⟨k, k1, ?_⟩
    rw [Qs]
    simp only [XT, Qu hlt, Qg hlt, Qz hlt, hc, cond_true, Qa, Option.bind_some, QP (show (i : Int) < 9223372036854775807 by omega)]
    exact k2
 obtain ⟨k, hk, hr⟩ := key out.length 0 (by omega)
 have hr' : run (XT out x) 0 = some (k : Int) := hr
 have e1 : cut out 0 (k : Int) = out.take k := Qc1 out k
 have e2 : cut out (k : Int) (ln out) = out.drop k := by unfold cut; rw [Vg]; simp
 have new : Qa6 out x = some out ∧ x ∈ out ∨ Qa6 out x = some (out.take k ++ [x] ++ out.drop k) := by
  have s1 : slB 0 (k : Int) (ln out) = true := Qkj hk
  have s2 : slB (k : Int) (ln out) (ln out) = true := by unfold slB; rw [Vg]; simp; omega
  have put : (nd (slB 0 (k : Int) (ln out)) <| nd (slB (k : Int) (ln out) (ln out)) <| nd (rm (0 + (cut out 0 (k : Int)).length) 8) <| nd (rm ((cut out 0 (k : Int)).length + 1) 8) <| nd (rm ((cut out 0 (k : Int)).length + 1 + (cut out (k : Int) (ln out)).length) 8) <| some (((cut out 0 (k : Int)) ++ [x]) ++ (cut out (k : Int) (ln out)))) = some (out.take k ++ [x] ++ out.drop k) := by
   rw [s1, s2, e1, e2, V9 (by simp; omega) (by omega), V9 (by simp; omega) (by omega), V9 (by simp; omega) (by omega)]
   rfl
  unfold Qa6
  rw [hr']
  simp only [Option.bind_some]
  by_cases hlt : k < out.length
  ·rw [Qu hlt, Qg hlt, Qz hlt]
   simp only [cond_true, Qa, Option.bind_some]
   by_cases hx : out[k] = x
   ·left
    rw [decide_eq_true hx, V9 (show 0 + out.length ≤ 2000000 by omega) (by omega)]
    exact ⟨rfl, by rw [← hx]; exact List.getElem_mem hlt⟩
   ·right
    rw [decide_eq_false hx]
    exact put
  ·right
   rw [Qx (show out.length ≤ k by omega)]
   exact put
 rcases new with ⟨h1, h2⟩ | h1
 ·exact ⟨out, h1, by omega, fun t => ⟨.inl, fun h => h.elim _root_.id fun h => by rw [h]; exact h2⟩⟩
 ·refine ⟨_, h1, by simp; omega, fun t => ?_⟩
  have : t ∈ out ↔ t ∈ out.take k ∨ t ∈ out.drop k := by
   conv => lhs; rw [← List.take_append_drop k out]
   exact List.mem_append
  simp only [List.mem_append, List.mem_singleton]
  rw [this]
  constructor
  ·rintro ((h | h) | h)
   ·exact .inl (.inl h)
   ·exact .inr h
   ·exact .inl (.inr h)
  ·rintro ((h | h) | h)
   ·exact .inl (.inl h)
   ·exact .inr h
   ·exact .inl (.inr h)
theorem QsQ (l : List Hand) (t : Int) (hl : l.length ≤ 1048576) : JR l t = some (VA l t l.length) := by
 have h := QmX l t l.length (Nat.le_refl _) hl
 rw [Qc1, List.take_length] at h
 exact h
theorem Qwr (l : List Hand) (house : Int) (hl : l.length ≤ 100) (c1 : Vr l = some true) (c2 : Vp l = some true) :
  ∃ r1 r2, Qbo l house = some r1 ∧ QbU l house = some r2 ∧ (∀ t, t ∈ r1 ↔ t ∈ r2) ∧ r1.length ≤ 100 ∧ r2.length ≤ 100 := by
 have hat : ∀ i, i < l.length → ∃ j : Nat, j < l.length ∧ VA l (gt l (i : Int)).Thing l.length = (j : Int) := fun i hi => Qh5 l _ l.length i hi rfl
 obtain ⟨r1, a1, a2, a3⟩ := QnP (n := l.length) (step := JC l house) (fin := fun r => r)
  (fun i (out : List Int) => out.length ≤ i ∧ ∀ t, t ∈ out ↔ (∃ k, k < i ∧ (gt l (k : Int)).Thing = t) ∧ hm l house t = true)
  (fun i out hi ⟨ho, hq⟩ => by
   obtain ⟨j, hj, hj2⟩ := hat i hi
   simp only [JC, Qu hi, c1, Qg hi, cond_true, Qa, Option.bind_some, QP (show (i : Int) < 9223372036854775807 by omega)]
   rw [show ln l = ((l.length : Nat) : Int) from rfl, Qnw l _ l.length (Nat.le_refl _) (by omega)]
   simp only [Option.bind_some]
   cases hb : hm l house (gt l (i : Int)).Thing with
   | true =>
    obtain ⟨out', p1, p2, p3⟩ := QDY out (gt l (i : Int)).Thing (by omega)
    have hb' := hb
    unfold hm at hb'
    rw [hj2] at hb' ⊢
    rw [Qg hj, hb']
    simp only [Qa, Option.bind_some, cond_true, p1]
    refine ⟨out', rfl, by omega, fun t => ?_⟩
    rw [p3 t, hq t]
    constructor
    ·rintro (⟨⟨k, k1, k2⟩, h⟩ | rfl)
     ·exact ⟨⟨k, by omega, k2⟩, h⟩
     ·exact ⟨⟨i, by omega, rfl⟩, hb⟩
    ·rintro ⟨⟨k, k1, k2⟩, h⟩
     by_cases hki : k = i
     ·subst hki; exact .inr k2.symm
     ·exact .inl ⟨⟨k, by omega, k2⟩, h⟩
   | false =>
    have hb' := hb
    unfold hm at hb'
    rw [hj2] at hb' ⊢
    rw [Qg hj, hb']
    simp only [Qa, Option.bind_some, cond_false]
    refine ⟨out, rfl, by omega, fun t => ?_⟩
    rw [hq t]
    constructor
    ·rintro ⟨⟨k, k1, k2⟩, h⟩
     exact ⟨⟨k, by omega, k2⟩, h⟩
    ·rintro ⟨⟨k, k1, k2⟩, h⟩
     by_cases hki : k = i
     ·subst hki; rw [k2, h] at hb; cases hb
     ·exact ⟨⟨k, by omega, k2⟩, h⟩)
  (fun out _ => by simp only [JC, Qx (Nat.le_refl _), cond_false, Option.bind_some]) [] ⟨by simp, fun t => by simp⟩
 obtain ⟨r2, b1, b2, b3⟩ := QnP (n := l.length) (step := Jv l house l (ln l)) (fin := fun r => r)
  (fun i (out : List Int) => out.length ≤ i ∧ ∀ t, t ∈ out ↔ ∃ k : Nat, k < i ∧ (gt l (k : Int)).Thing = t ∧ VA l t l.length = (k : Int) ∧ hm l house t = true)
  (fun i out hi ⟨ho, hq⟩ => by
   simp only [Jv, Qu hi, Qg hi, cond_true, Qa, QsQ l _ (show l.length ≤ 1048576 by omega), Option.bind_some, QP (show (i : Int) < 9223372036854775807 by omega)]
   have hbv : (bif decide ((gt l (i : Int)).Holder = 2) then (bif decide ((gt l (i : Int)).Who = house) then some (decide (VA l (gt l (i : Int)).Thing l.length = (i : Int))) else some false) else some false) = some (decide (VA l (gt l (i : Int)).Thing l.length = (i : Int)) && hm l house (gt l (i : Int)).Thing) := by
    by_cases he : VA l (gt l (i : Int)).Thing l.length = (i : Int)
    ·unfold hm
     rw [he]
     cases decide ((gt l (i : Int)).Holder = 2) <;> cases decide ((gt l (i : Int)).Who = house) <;> simp
    ·rw [decide_eq_false he]
     cases decide ((gt l (i : Int)).Holder = 2) <;> cases decide ((gt l (i : Int)).Who = house) <;> rfl
   rw [hbv]
   simp only [Option.bind_some]
   cases hb : (decide (VA l (gt l (i : Int)).Thing l.length = (i : Int)) && hm l house (gt l (i : Int)).Thing) with
   | true =>
    simp only [Bool.and_eq_true, decide_eq_true_eq] at hb
    rw [V9 (show out.length + 1 ≤ 2000000 by omega) (by omega)]
    refine ⟨out ++ [(gt l (i : Int)).Thing], rfl, by simp; omega, fun t => ?_⟩
    simp only [List.mem_append, List.mem_singleton]
    rw [hq t]
    constructor
    ·rintro (⟨k, k1, k2⟩ | rfl)
     ·exact ⟨k, by omega, k2⟩
     ·exact ⟨i, by omega, rfl, hb⟩
    ·rintro ⟨k, k1, k2, k3⟩
     by_cases hki : k = i
     ·subst hki; exact .inr k2.symm
     ·exact .inl ⟨k, by omega, k2, k3⟩
   | false =>
    refine ⟨out, rfl, by omega, fun t => ?_⟩
    rw [hq t]
    constructor
    ·rintro ⟨k, k1, k2⟩
     exact ⟨k, by omega, k2⟩
    ·rintro ⟨k, k1, k2, k3, k4⟩
     by_cases hki : k = i
     ·subst hki
      rw [k2, decide_eq_true k3, k4] at hb; cases hb
     ·exact ⟨k, by omega, k2, k3, k4⟩)
  (fun out _ => by simp only [Jv, Qx (Nat.le_refl _), cond_false]) [] ⟨by simp, fun t => by simp⟩
 have hperm : (QaD r2).Perm r2 := List.mergeSort_perm _ _
 refine ⟨r1, QaD r2, ?_, ?_, fun t => ?_, by omega, by rw [hperm.length_eq]; omega⟩
 ·unfold Qbo
  rw [a1]; rfl
 ·unfold QbU
  rw [c2]
  simp only [Option.bind_some, Bool.not_true, cond_false]
  rw [b1]
  simp only [Option.bind_some]
  rw [decide_eq_true (by omega)]; rfl
 ·rw [hperm.mem_iff, a3 t, b3 t]
  constructor
  ·rintro ⟨⟨k, k1, k2⟩, h⟩
   obtain ⟨j, j1, j2⟩ := Qh5 l t l.length k k1 k2
   exact ⟨j, j1, (QgZ l t l.length j j2).2, j2, h⟩
  ·rintro ⟨k, k1, k2, k3, k4⟩
   exact ⟨⟨k, k1, k2⟩, k4⟩
theorem QRc (l : List Int) (v : Int) (hl : l.length ≤ 1048576) : QcX l v = some (decide (v ∈ l)) := by
 have hr := Qfw l (fun x => decide (x = v)) (r := true) (step := ZV l v)
  (fun i hi => by
   simp only [ZV, Qu hi, Qg hi, Qz hi, QP (show (i : Int) < 9223372036854775807 by omega), cond_true, Qa]
   cases decide (l[i] = v) <;> rfl)
  (by simp only [ZV, Qx (Nat.le_refl _), cond_false])
 unfold QcX
 rw [hr]
 by_cases h : v ∈ l
 ·rw [decide_eq_true h, List.any_eq_true.2 ⟨v, h, by simp⟩]; rfl
 ·rw [decide_eq_false h, List.any_eq_false.2 (fun x hx => by simp; rintro rfl; exact h hx)]; rfl
theorem QNG (l : List Int) (v : Int) (hl : l.length ≤ 1048576) : XP l v = some (decide (v ∈ l)) := by
 have hi := ZN l (fun x => decide (v = x)) (fun i => (i : Int)) (step := VN l v (ln l))
  (fun i hi => by
   simp only [VN, Qu hi, Qg hi, Qz hi, QP (show (i : Int) < 9223372036854775807 by omega), cond_true, Qa]
   cases decide (v = l[i]) <;> rfl)
  (by simp only [VN, Qx (Nat.le_refl _), cond_false])
 unfold XP Qaq
 rw [hi]
 cases hf : l.findIdx? (fun x => decide (v = x)) with
 | none =>
  have : ¬ v ∈ l := fun h => by
   have := List.findIdx?_eq_none_iff.1 hf v h
   simp at this
  rw [decide_eq_false this]; rfl
 | some i =>
  obtain ⟨hi', hp⟩ := QcM hf
  have : v ∈ l := by
   have e : v = l[i] := by simpa using hp
   rw [e]; exact List.getElem_mem hi'
  rw [decide_eq_true this]
  show some (decide (0 ≤ (i : Int))) = _
  rw [decide_eq_true (by omega)]
theorem QwB (l : List Slot) (t : Int) (hl : l.length ≤ 1048576) (hid : ∀ x ∈ l, 1 ≤ x.Id) : ∃ c, Zj l t = some c ∧ decide (c = 0) = !(!decide (t = 0) && l.any (fun x => decide (x.Thing = t))) := by
 have hr := ZN l (fun x => !decide (t = 0) && decide (x.Thing = t)) (fun i => (gt l (i : Int)).Id) (step := VJ l t)
  (fun i hi => by
   simp only [VJ, Qu hi, Qg hi, Qz hi, QP (show (i : Int) < 9223372036854775807 by omega), cond_true, Qa]
   cases decide (t = 0) <;> cases decide (l[i].Thing = t) <;> rfl)
  (by simp only [VJ, Qx (Nat.le_refl _), cond_false])
 unfold Zj
 rw [hr]
 cases hf : l.findIdx? (fun x => !decide (t = 0) && decide (x.Thing = t)) with
 | none =>
  refine ⟨0, rfl, ?_⟩
  have := List.findIdx?_eq_none_iff.1 hf
  cases ht : decide (t = 0) with
  | true => rfl
  | false =>
   rw [ht] at this
   have : l.any (fun x => decide (x.Thing = t)) = false := by
    rw [List.any_eq_false]
    intro x hx
    have := this x hx
    simpa using this
   rw [this]; rfl
 | some i =>
  obtain ⟨hi', hp⟩ := QcM hf
  refine ⟨(gt l (i : Int)).Id, rfl, ?_⟩
  simp only [Bool.and_eq_true] at hp
  rw [Qz hi', decide_eq_false (by have := hid l[i] (List.getElem_mem hi'); omega), hp.1, List.any_eq_true.2 ⟨l[i], List.getElem_mem hi', hp.2⟩]
  rfl
theorem Qo1 (x : Trial) : ∃ b, Zx x = some b ∧ Qar x = some b := by
 have e : Qar x = Zx x := rfl
 rw [e]
 unfold Zx Qf
 simp only [Option.bind_some]
 cases (decide (1 ≤ x.Claim) && decide (x.Claim ≤ 999)) <;> cases (decide (0 ≤ x.Right) && decide (x.Right ≤ 100)) <;> exact ⟨_, rfl, rfl⟩
theorem Qxg (l : List Secret) (t : Int) (hl : l.length ≤ 1048576) (hm : ∀ x ∈ l, x.Marks.length ≤ 1048576) : ∃ m, QbS l t = some m ∧ QbF l t = some m ∧ m.length ≤ 1048576 := by
 have hs := ZN l (fun x => decide (x.Thing = t)) (fun i => (i : Int)) (step := Jy l t)
  (fun i hi => by
   simp only [Jy, Qu hi, Qg hi, Qz hi, QP (show (i : Int) < 9223372036854775807 by omega), cond_true, Qa]
   cases decide (l[i].Thing = t) <;> rfl)
  (by simp only [Jy, Qx (Nat.le_refl _), cond_false])
 have hi := ZN l (fun x => decide (x.Thing = t)) (fun i => (i : Int)) (step := Qv l t (ln l))
  (fun i hi => by
   simp only [Qv, Qa1, Option.bind_some, Qu hi, Qg hi, Qz hi, QP (show (i : Int) < 9223372036854775807 by omega), cond_true, Qa]
   cases decide (l[i].Thing = t) <;> rfl)
  (by simp only [Qv, Qx (Nat.le_refl _), cond_false])
 unfold QbS QbF QcO Qcj Q3
 rw [hs, hi]
 cases hf : l.findIdx? (fun x => decide (x.Thing = t)) with
 | none => exact ⟨[], rfl, rfl, by simp⟩
 | some i =>
  obtain ⟨hi', _⟩ := QcM hf
  have hmi := hm l[i] (List.getElem_mem hi')
  refine ⟨l[i].Marks, ?_, ?_, hmi⟩
  ·simp only [Option.bind_some, Qug, show decide ((i : Int) < 0) = false from decide_eq_false (by omega), cond_false, Qg hi', Qz hi', Qa, V9 (show 0 + l[i].Marks.length ≤ 2000000 by omega) (show 16 ≤ 1024 by omega)]
  ·simp only [Option.bind_some, Qug, show decide ((i : Int) < 0) = false from decide_eq_false (by omega), cond_false, Qg hi', Qz hi', Qa, Xx, V9 (show 0 + l[i].Marks.length ≤ 2000000 by omega) (show 16 ≤ 1024 by omega)]
theorem Qqn (l : List Mark) (x : Trial) (hl : l.length ≤ 1048576) : ∃ c, ZQ l x = some c ∧ Zz l x = some c := by
 obtain ⟨b, b1, b2⟩ := Qo1 x
 obtain ⟨m, m1, m2⟩ := Qlz l (by omega)
 have Q8 : Qby l = Qao l := by
  unfold Qby Qao Qhd
  by_cases h : ln l < 3
  ·rw [decide_eq_true h, if_pos h]; rfl
  ·rw [decide_eq_false h, if_neg h]; rfl
 unfold ZQ Zz
 rw [b1, b2, m1, m2, Q8]
 unfold Qao
 cases b <;> cases m <;> cases decide (1 < x.Wrong) <;> cases decide (0 < ln l) <;> simp only [Option.bind_some, Bool.not_true, Bool.not_false, cond_true, cond_false, Bool.or_true, Bool.or_false, Bool.true_or, Bool.false_or] <;>
  first | exact ⟨_, rfl, rfl⟩ | (cases decide ((if ln l < 3 then ln l else 3) ≤ x.Right) <;> exact ⟨_, rfl, rfl⟩)
theorem Qd9 {α : Type} (l : List α) (hour : α → Int) (now : Int) {step : Int × Int → Option ((Int × Int) ⊕ Int)}
  (h1 : ∀ (i : Nat) (v : Int) (h : i < l.length), step (v, (i : Int)) = some (.inl ((if v < hour l[i] then hour l[i] else v), ((i + 1 : Nat) : Int)))) (h2 : ∀ v, step (v, (l.length : Int)) = some (.inr v)) (v0 : Int) :
  ∃ v, run step (v0, 0) = some v ∧ (v ≤ now ↔ v0 ≤ now ∧ ∀ x ∈ l, hour x ≤ now) := by
 obtain ⟨v, q1, q2⟩ := QnP (n := l.length) (step := step) (fin := fun v => v) (fun i v => v ≤ now ↔ v0 ≤ now ∧ ∀ x ∈ l.take i, hour x ≤ now)
  (fun i v hi hq => by
   refine ⟨_, h1 i v hi, ?_⟩
   rw [List.take_succ_eq_append_getElem hi]
   have : (∀ x ∈ l.take i ++ [l[i]], hour x ≤ now) ↔ (∀ x ∈ l.take i, hour x ≤ now) ∧ hour l[i] ≤ now := by
    simp only [List.mem_append, List.mem_singleton]
    constructor
    ·intro h; exact ⟨fun x hx => h x (.inl hx), h _ (.inr rfl)⟩
    ·rintro ⟨h, h'⟩ x (hx | rfl)
     ·exact h x hx
     ·exact h'
   rw [this]
   constructor
   ·intro hv
    have h3 : v ≤ now ∧ hour l[i] ≤ now := by split at hv <;> omega
    exact ⟨(hq.1 h3.1).1, (hq.1 h3.1).2, h3.2⟩
   ·rintro ⟨a, b, c⟩
    have := hq.2 ⟨a, b⟩
    split <;> omega) (fun v _ => h2 v) v0 (by simp)
 exact ⟨v, q1, by rw [List.take_length] at q2; exact q2⟩
theorem Qup (h : House) (now : Int) (m1 : h.Finds.length ≤ 1048576) (m2 : h.Claims.length ≤ 1048576) (m3 : h.Chain.length ≤ 1048576) (m4 : h.Book.length ≤ 1048576) :
  ∃ v, QcF h = some v ∧ (v ≤ now ↔ -1 ≤ now ∧ (∀ x ∈ h.Finds, x.At ≤ now) ∧ (∀ x ∈ h.Claims, x.At ≤ now) ∧ (∀ x ∈ h.Chain, x.At ≤ now) ∧ ∀ x ∈ h.Book, x.At ≤ now) := by
 obtain ⟨v1, a1, a2⟩ := Qd9 h.Finds (·.At) now (step := Zc h h.Finds (ln h.Finds)) (fun i v hi => by simp only [Zc, Qu hi, Qg hi, Qz hi, QP (show (i : Int) < 9223372036854775807 by omega), cond_true, Qa])
  (fun v => by simp only [Zc, Qx (Nat.le_refl _), cond_false]) (-1)
 obtain ⟨v2, b1, b2⟩ := Qd9 h.Claims (·.At) now (step := Zf h h.Claims (ln h.Claims)) (fun i v hi => by simp only [Zf, Qu hi, Qg hi, Qz hi, QP (show (i : Int) < 9223372036854775807 by omega), cond_true, Qa])
  (fun v => by simp only [Zf, Qx (Nat.le_refl _), cond_false]) v1
 obtain ⟨v3, c1, c2⟩ := Qd9 h.Chain (·.At) now (step := JA h h.Chain (ln h.Chain)) (fun i v hi => by simp only [JA, Qu hi, Qg hi, Qz hi, QP (show (i : Int) < 9223372036854775807 by omega), cond_true, Qa])
  (fun v => by simp only [JA, Qx (Nat.le_refl _), cond_false]) v2
 obtain ⟨v4, d1, d2⟩ := Qd9 h.Book (·.At) now (step := Jm h.Book (ln h.Book)) (fun i v hi => by simp only [Jm, Qu hi, Qg hi, Qz hi, QP (show (i : Int) < 9223372036854775807 by omega), cond_true, Qa])
  (fun v => by simp only [Jm, Qx (Nat.le_refl _), cond_false]) v3
 refine ⟨v4, ?_, ?_⟩
 ·unfold QcF
  rw [a1]; simp only [Option.bind_some]
  rw [b1]; simp only [Option.bind_some]
  rw [c1]; simp only [Option.bind_some]
  rw [d1]; rfl
 ·rw [d2, c2, b2, a2]
  simp only [and_assoc]
end Go.Proofs.YtcdffihcfeajfaaGreat
