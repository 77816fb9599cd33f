import Derived.Test.YtkbilciipmijjaaGreatPz4
import Derived.Test.YtkbilciipmijjaaGreatPz1
import Derived.Test.YtkbilciipmijjaaGreatFn
import Derived.Test.YtkbilciipmijjaaGreatPl
namespace Go.Proofs.YtkbilciipmijjaaGreat
open Go
set_option linter.unusedVariables false
set_option linter.unusedSimpArgs false
theorem Qgl {l : List Find} {id : Int} (h : ¬ Vv l id < 0) : ∃ k : Nat, Vv l id = (k : Int) ∧ k < l.length := by
 unfold Vv at h ⊢
 cases hf : l.findIdx? (fun x => decide (x.Thing.Id = id)) with
 | none => rw [hf] at h; simp at h
 | some i => exact ⟨i, rfl, (Z6 hf).1⟩
def X2 (x : Hand) (c : Claim) : Bool := decide (c.State = 3) && (decide (c.Thing = x.Thing) && decide (c.Who = x.Who))
theorem QkV (h : House) (x : Hand) (hl : h.Claims.length ≤ 1048576) : Qbp h x = some (h.Claims.any (X2 x)) := by
 have hs := QeV h.Claims (X2 x) (r := true) (step := Qaa h x)
  (fun i hi => by
   simp only [Qaa, Qn hi, Qd hi, Qj hi, Qx (show (i : Int) < 9223372036854775807 by omega), cond_true, Qa, X2]
   cases decide (h.Claims[i].State = 3) <;> cases decide (h.Claims[i].Thing = x.Thing) <;> cases decide (h.Claims[i].Who = x.Who) <;> rfl)
  (by simp only [Qaa, Qu (Nat.le_refl _), cond_false])
 unfold Qbp
 rw [hs]
 cases h.Claims.any (X2 x) <;> rfl
theorem QoY (h : House) (x : Hand) (hl : h.Claims.length ≤ 1048576) : Qau h x = some (decide (x.Holder = 3) && h.Claims.any (X2 x)) := by
 have hi := Xl h.Claims (X2 x) (fun i => (i : Int)) (step := Qr h.Claims x (ln h.Claims))
  (fun i hi => by
   simp only [Qr, Qbt, Option.bind_some, Qn hi, Qd hi, Qj hi, Qx (show (i : Int) < 9223372036854775807 by omega), cond_true, Qa, X2]
   cases decide (h.Claims[i].State = 3) <;> cases decide (h.Claims[i].Thing = x.Thing) <;> cases decide (h.Claims[i].Who = x.Who) <;> rfl)
  (by simp only [Qr, Qu (Nat.le_refl _), cond_false])
 have hc : QA h.Claims x = some (h.Claims.any (X2 x)) := by
  unfold QA Q5
  rw [hi]
  cases hf : h.Claims.findIdx? (X2 x) with
  | none =>
   have : h.Claims.any (X2 x) = false := by
    rw [List.any_eq_false]
    intro y hy
    have := List.findIdx?_eq_none_iff.1 hf y hy
    simp [this]
   rw [this]; rfl
  | some i =>
   obtain ⟨hi, hp⟩ := Z6 hf
   have : h.Claims.any (X2 x) = true := List.any_eq_true.2 ⟨_, List.getElem_mem hi, hp⟩
   rw [this]
   show some (decide (0 ≤ (i : Int))) = _
   rw [decide_eq_true (by omega)]
 unfold Qau
 rw [hc]
 cases decide (x.Holder = 3) <;> rfl
def QhB (h : House) (x : Hand) : Bool := !decide (x.Holder = 3) || (h.Claims.any (X2 x) || (!decide (Vv h.Finds x.Thing < 0) && decide ((gt h.Finds (Vv h.Finds x.Thing)).Finder = x.Who)))
theorem Qtz (h : House) (hm : Qe h) : ∃ c, Qfq h = some c ∧ ZD h = some c := by
 unfold Qe at hm
 obtain ⟨m1, m2, m3, m4, m5, m6, m7⟩ := hm
 have hs := Qcw h.Chain (QhB h) (r := false) (step := QaB h)
  (fun i hi => by
   simp only [QaB, Qn hi, Qd hi, Qj hi, Qx (show (i : Int) < 9223372036854775807 by omega), cond_true, Qa, (VR h.Finds h.Chain[i].Thing m1).1, QkV h h.Chain[i] m4, Option.bind_some, QhB]
   by_cases hf : Vv h.Finds h.Chain[i].Thing < 0
   ·rw [decide_eq_true hf]
    cases decide (h.Chain[i].Holder = 3) <;> cases h.Claims.any (X2 h.Chain[i]) <;> rfl
   ·obtain ⟨k, hk, hlt⟩ := Qgl hf
    rw [decide_eq_false hf]
    simp only [hk, Qd hlt, Qa]
    cases decide (h.Chain[i].Holder = 3) <;> cases h.Claims.any (X2 h.Chain[i]) <;> cases decide ((gt h.Finds (k : Int)).Finder = h.Chain[i].Who) <;> rfl)
  (by simp only [QaB, Qu (Nat.le_refl _), cond_false])
 have hi := Qcw h.Chain (QhB h) (r := false) (step := Jh h h.Chain (ln h.Chain))
  (fun i hi => by
   simp only [Jh, Qn hi, Qd hi, Qj hi, Qx (show (i : Int) < 9223372036854775807 by omega), cond_true, Qa, (VR h.Finds h.Chain[i].Thing m1).2, QoY h h.Chain[i] m4, Option.bind_some, QhB]
   by_cases hf : Vv h.Finds h.Chain[i].Thing < 0
   ·rw [decide_eq_true hf]
    cases decide (h.Chain[i].Holder = 3) <;> cases h.Claims.any (X2 h.Chain[i]) <;> rfl
   ·obtain ⟨k, hk, hlt⟩ := Qgl hf
    rw [decide_eq_false hf]
    simp only [hk, Qd hlt, Qa]
    cases decide (h.Chain[i].Holder = 3) <;> cases h.Claims.any (X2 h.Chain[i]) <;> cases decide ((gt h.Finds (k : Int)).Finder = h.Chain[i].Who) <;> rfl)
  (by simp only [Jh, Qu (Nat.le_refl _), cond_false])
 refine ⟨h.Chain.all (QhB h), ?_, ?_⟩
 ·unfold Qfq; rw [hs]; cases h.Chain.all (QhB h) <;> rfl
 ·unfold ZD; rw [hi]; cases h.Chain.all (QhB h) <;> rfl
theorem QCM (f : Find) : Zh f = VM f := rfl
theorem Qnb (f : Find) : ∃ b, VM f = some b ∧ (b = true → 1 ≤ f.Thing.Kind ∧ f.Thing.Kind ≤ 8) := by
 unfold VM V8 Qc
 simp only [Option.bind_some]
 cases h1 : (decide (1 ≤ f.Thing.Id) && decide (f.Thing.Id ≤ 999)) with
 | false => exact ⟨false, rfl, fun h => by cases h⟩
 | true =>
  cases h2 : (decide (1 ≤ f.Thing.Kind) && decide (f.Thing.Kind ≤ 8)) with
  | false => exact ⟨false, rfl, fun h => by cases h⟩
  | true =>
   have hk : 1 ≤ f.Thing.Kind ∧ f.Thing.Kind ≤ 8 := by simpa using h2
   simp only [cond_true]
   cases (decide (0 ≤ f.Thing.Colour) && decide (f.Thing.Colour ≤ 7)) <;> cases (decide (1 ≤ f.Thing.Size) && decide (f.Thing.Size ≤ 50)) <;> cases (decide (0 ≤ f.Thing.Worth) && decide (f.Thing.Worth ≤ 10000000)) <;>
    cases (decide (1 ≤ f.Place) && decide (f.Place ≤ 30)) <;> cases (decide (0 ≤ f.At) && decide (f.At ≤ 100000)) <;> cases (decide (0 ≤ f.Finder) && decide (f.Finder ≤ 999)) <;> exact ⟨_, rfl, fun _ => hk⟩
theorem QtM (k : Int) (h1 : 1 ≤ k) (h2 : k ≤ 8) : ∃ d, Qbk k = some d ∧ Qbg k = some d := by
 have : k = 1 ∨ k = 2 ∨ k = 3 ∨ k = 4 ∨ k = 5 ∨ k = 6 ∨ k = 7 ∨ k = 8 := by omega
 rcases this with rfl | rfl | rfl | rfl | rfl | rfl | rfl | rfl <;> exact ⟨_, rfl, rfl⟩
theorem QD6 (f : Find) (now : Int) : ∃ b, Zt f now = some b ∧ Qab f now = some b := by
 obtain ⟨b, h1, h2⟩ := Qnb f
 unfold Zt Qab QbQ QbT
 rw [QCM, h1]
 cases b with
 | false => exact ⟨false, rfl, rfl⟩
 | true =>
  obtain ⟨k1, k2⟩ := h2 rfl
  obtain ⟨d, h3, h4⟩ := QtM f.Thing.Kind k1 k2
  simp only [Option.bind_some, cond_true, cond_false, Bool.not_true, h3, h4]
  exact ⟨_, rfl, rfl⟩
noncomputable def QmD (f : Find) (now : Int) : Bool := (Zt f now).getD false
theorem QrK (f : Find) (now : Int) : Zt f now = some (QmD f now) ∧ Qab f now = some (QmD f now) := by
 obtain ⟨b, h1, h2⟩ := QD6 f now
 unfold QmD
 rw [h1, h2]
 exact ⟨rfl, rfl⟩
noncomputable def Qg8 (h : House) (x : Hand) : Bool :=
 decide (x.Holder ≤ 2) || ((decide (x.Holder = 3) && h.Claims.any (X2 x)) || (!decide (Vv h.Finds x.Thing < 0) && QmD (gt h.Finds (Vv h.Finds x.Thing)) x.At))
theorem Qn9 (h : House) (hm : Qe h) : ∃ c, QdE h = some c ∧ Jd h = some c := by
 unfold Qe at hm
 obtain ⟨m1, m2, m3, m4, m5, m6, m7⟩ := hm
 have hs := Qcw h.Chain (Qg8 h) (r := false) (step := Zd h)
  (fun i hi => by
   simp only [Zd, Qn hi, Qd hi, Qj hi, Qx (show (i : Int) < 9223372036854775807 by omega), cond_true, Qa, (VR h.Finds h.Chain[i].Thing m1).1, QkV h h.Chain[i] m4, Option.bind_some, Qg8]
   by_cases hf : Vv h.Finds h.Chain[i].Thing < 0
   ·rw [decide_eq_true hf]
    cases decide (h.Chain[i].Holder ≤ 2) <;> cases decide (h.Chain[i].Holder = 3) <;> cases h.Claims.any (X2 h.Chain[i]) <;> rfl
   ·obtain ⟨k, hk, hlt⟩ := Qgl hf
    rw [decide_eq_false hf]
    simp only [hk, Qd hlt, Qa, (QrK _ _).1, Option.bind_some]
    cases decide (h.Chain[i].Holder ≤ 2) <;> cases decide (h.Chain[i].Holder = 3) <;> cases h.Claims.any (X2 h.Chain[i]) <;> cases QmD (gt h.Finds (k : Int)) h.Chain[i].At <;> rfl)
  (by simp only [Zd, Qu (Nat.le_refl _), cond_false])
 have hi := Qcw h.Chain (Qg8 h) (r := false) (step := Xi h h.Chain (ln h.Chain))
  (fun i hi => by
   simp only [Xi, Qn hi, Qd hi, Qj hi, Qx (show (i : Int) < 9223372036854775807 by omega), cond_true, Qa, (VR h.Finds h.Chain[i].Thing m1).2, QoY h h.Chain[i] m4, Option.bind_some, Qg8]
   by_cases hf : Vv h.Finds h.Chain[i].Thing < 0
   ·rw [decide_eq_true hf]
    cases decide (h.Chain[i].Holder ≤ 2) <;> cases decide (h.Chain[i].Holder = 3) <;> cases h.Claims.any (X2 h.Chain[i]) <;> rfl
   ·obtain ⟨k, hk, hlt⟩ := Qgl hf
    rw [decide_eq_false hf]
    simp only [hk, Qd hlt, Qa, (QrK _ _).2, Option.bind_some]
    cases decide (h.Chain[i].Holder ≤ 2) <;> cases decide (h.Chain[i].Holder = 3) <;> cases h.Claims.any (X2 h.Chain[i]) <;> cases QmD (gt h.Finds (k : Int)) h.Chain[i].At <;> rfl)
  (by simp only [Xi, Qu (Nat.le_refl _), cond_false])
 refine ⟨h.Chain.all (Qg8 h), ?_, ?_⟩
 ·unfold QdE; rw [hs]; cases h.Chain.all (Qg8 h) <;> rfl
 ·unfold Jd; rw [hi]; cases h.Chain.all (Qg8 h) <;> rfl
end Go.Proofs.YtkbilciipmijjaaGreat
namespace Go.Proofs.YtkbilciipmijjaaGreat
open Go
set_option linter.unusedVariables false
set_option linter.unusedSimpArgs false
set_option maxRecDepth 100000
theorem QvS : ∀ {a b : List Int}, a.Pairwise (· < ·) → b.Pairwise (· < ·) → (∀ x, x ∈ a ↔ x ∈ b) → a = b
 | [], [], _, _, _ => rfl
 | [], y :: b, _, _, h => by have := (h y).2 (by simp); simp at this
 | x :: a, [], _, _, h => by have := (h x).1 (by simp); simp at this
 | x :: a, y :: b, ha, hb, h => by
  obtain ⟨ha1, ha2⟩ := List.pairwise_cons.1 ha
  obtain ⟨hb1, hb2⟩ := List.pairwise_cons.1 hb
  have hxy : x = y := by
   have h1 := (h x).1 (by simp)
   have h2 := (h y).2 (by simp)
   rcases List.mem_cons.1 h1 with h1 | h1
   ·exact h1
   ·rcases List.mem_cons.1 h2 with h2 | h2
    ·exact h2.symm
    ·have := hb1 x h1
     have := ha1 y h2
     omega
  subst hxy
  refine congrArg _ (QvS ha2 hb2 fun z => ?_)
  have hz := h z
  constructor
  ·intro hza
   rcases List.mem_cons.1 (hz.1 (List.mem_cons_of_mem _ hza)) with e | e
   ·have := ha1 z hza; omega
   ·exact e
  ·intro hzb
   rcases List.mem_cons.1 (hz.2 (List.mem_cons_of_mem _ hzb)) with e | e
   ·have := hb1 z hzb; omega
   ·exact e
theorem QsE {l : List Int} {v : Int} (hl : l.Pairwise (· < ·)) {n : Nat} (hn : n ≤ l.length) (h1 : ∀ i (h : i < l.length), i < n → l[i] < v) (h2 : ∀ (h : n < l.length), v < l[n]) :
  (l.take n ++ [v] ++ l.drop n).Pairwise (· < ·) := by
 have hd : ∀ x ∈ l.drop n, v < x := by
  intro x hx
  obtain ⟨i, hi, rfl⟩ := List.mem_iff_getElem.1 hx
  rw [List.length_drop] at hi
  rw [List.getElem_drop]
  have hv := h2 (by omega)
  by_cases h0 : i = 0
  ·subst h0; simpa using hv
  ·have := List.pairwise_iff_getElem.1 hl n (n + i) (by omega) (by omega) (by omega)
   omega
 have ht : ∀ x ∈ l.take n, x < v := by
  intro x hx
  obtain ⟨i, hi, rfl⟩ := List.mem_iff_getElem.1 hx
  rw [List.length_take] at hi
  rw [List.getElem_take]
  exact h1 i (by omega) (by omega)
 rw [List.pairwise_append, List.pairwise_append]
 refine ⟨⟨hl.sublist (List.take_sublist _ _), by simp, fun x hx y hy => ?_⟩, hl.sublist (List.drop_sublist _ _), fun x hx y hy => ?_⟩
 ·simp only [List.mem_singleton] at hy
  subst hy
  exact ht x hx
 ·simp only [List.mem_append, List.mem_singleton] at hx
  rcases hx with hx | rfl
  ·have := ht x hx
   have := hd y hy
   omega
  ·exact hd y hy
theorem Qo3 (l : List Int) (v : Int) (hl : l.Pairwise (· < ·)) (hlen : l.length ≤ 4194304) :
  ∃ r, JW l v = some r ∧ r.Pairwise (· < ·) ∧ (∀ x, x ∈ r ↔ x ∈ l ∨ x = v) ∧ r.length ≤ l.length + 1 := by
 let n := l.findIdx (fun x => !decide (x < v))
 have hnl : n ≤ l.length := List.findIdx_le_length
 have h1 : ∀ i (h : i < l.length), i < n → l[i] < v := fun i h hi => by
  have := List.not_of_lt_findIdx (p := fun x => !decide (x < v)) hi
  simpa using this
 have h2 : ∀ (h : n < l.length), ¬ l[n] < v := fun h => by
  have := List.findIdx_getElem (p := fun x => !decide (x < v)) (w := h)
  simpa using this
 have hrun : run (Vs l v) 0 = some ((n : Nat) : Int) := by
  refine XH (step := Vs l v) (fun i => (i : Int)) n (fun i hi => ?_) ?_
  ·have hil : i < l.length := by omega
   simp only [Vs, Qn hil, Qd hil, Qj hil, cond_true, Qa, decide_eq_true (h1 i hil hi), Option.bind_some, Qx (show (i : Int) < 9223372036854775807 by omega)]
  ·by_cases h : n < l.length
   ·simp only [Vs, Qn h, Qd h, Qj h, cond_true, Qa, decide_eq_false (h2 h), Option.bind_some, cond_false]
   ·simp only [Vs, Qu (show l.length ≤ n by omega), cond_false, Option.bind_some]
 unfold JW
 rw [hrun]
 simp only [Option.bind_some]
 by_cases h : n < l.length
 ·simp only [Qn h, Qd h, Qj h, cond_true, Qa, Option.bind_some]
  by_cases hv : l[n] = v
  ·rw [decide_eq_true hv]
   have hrm : rm (0 + l.length) 8 = true := by unfold rm; exact decide_eq_true (by omega)
   refine ⟨l, by rw [hrm]; rfl, hl, fun x => ⟨.inl, fun hx => ?_⟩, by omega⟩
   rcases hx with hx | rfl
   ·exact hx
   ·rw [← hv]; exact List.getElem_mem _
  ·rw [decide_eq_false hv]
   have hc0 : cut l 0 ((n : Nat) : Int) = l.take n := by unfold cut; simp
   have hc1 : cut l ((n : Nat) : Int) (ln l) = l.drop n := by unfold cut ln; simp
   have hs0 : slB 0 ((n : Nat) : Int) (ln l) = true := by unfold slB ln; simp; omega
   have hs1 : slB ((n : Nat) : Int) (ln l) (ln l) = true := by unfold slB ln; simp; omega
   have hr0 : rm (0 + (l.take n).length) 8 = true := by unfold rm; exact decide_eq_true (by rw [List.length_take]; omega)
   have hr1 : rm ((l.take n).length + 1) 8 = true := by unfold rm; exact decide_eq_true (by rw [List.length_take]; omega)
   have hr2 : rm ((l.take n).length + 1 + (l.drop n).length) 8 = true := by unfold rm; exact decide_eq_true (by rw [List.length_take, List.length_drop]; omega)
   refine ⟨l.take n ++ [v] ++ l.drop n, by simp only [hc0, hc1, hs0, hs1, hr0, hr1, hr2, Qa, cond_false], ?_, fun x => ?_, ?_⟩
   ·exact QsE hl hnl h1 fun h' => by have := h2 h'; omega
   ·have : x ∈ l ↔ x ∈ l.take n ∨ x ∈ l.drop n := by rw [← List.mem_append, List.take_append_drop]
    rw [this]
    simp only [List.mem_append, List.mem_singleton]
    constructor
    ·rintro ((a | a) | a) <;> simp [a]
    ·rintro ((a | a) | a) <;> simp [a]
   ·simp only [List.length_append, List.length_take, List.length_drop, List.length_singleton]; omega
 ·have hn : n = l.length := by omega
  simp only [Qu (show l.length ≤ n by omega), cond_false, Option.bind_some]
  have hc0 : cut l 0 ((n : Nat) : Int) = l.take n := by unfold cut; simp
  have hc1 : cut l ((n : Nat) : Int) (ln l) = l.drop n := by unfold cut ln; simp
  have hs0 : slB 0 ((n : Nat) : Int) (ln l) = true := by unfold slB ln; simp; omega
  have hs1 : slB ((n : Nat) : Int) (ln l) (ln l) = true := by unfold slB ln; simp; omega
  have hr0 : rm (0 + (l.take n).length) 8 = true := by unfold rm; exact decide_eq_true (by rw [List.length_take]; omega)
  have hr1 : rm ((l.take n).length + 1) 8 = true := by unfold rm; exact decide_eq_true (by rw [List.length_take]; omega)
  have hr2 : rm ((l.take n).length + 1 + (l.drop n).length) 8 = true := by unfold rm; exact decide_eq_true (by rw [List.length_take, List.length_drop]; omega)
  refine ⟨l.take n ++ [v] ++ l.drop n, by simp only [hc0, hc1, hs0, hs1, hr0, hr1, hr2, Qa], ?_, fun x => ?_, ?_⟩
  ·exact QsE hl hnl h1 fun h' => absurd h' h
  ·have : x ∈ l ↔ x ∈ l.take n ∨ x ∈ l.drop n := by rw [← List.mem_append, List.take_append_drop]
   rw [this]
   simp only [List.mem_append, List.mem_singleton]
   constructor
   ·rintro ((a | a) | a) <;> simp [a]
   ·rintro ((a | a) | a) <;> simp [a]
  ·simp only [List.length_append, List.length_take, List.length_drop, List.length_singleton]; omega
def Qd9 (l : List Entry) : List Int := l.flatMap fun x => [x.From, x.To]
theorem Ql6 (l : List Entry) (i : Nat) (h : i < l.length) (x : Int) : x ∈ Qd9 (l.take (i + 1)) ↔ x ∈ Qd9 (l.take i) ∨ x = l[i].From ∨ x = l[i].To := by
 rw [List.take_succ_eq_append_getElem h]
 unfold Qd9
 rw [List.flatMap_append, List.mem_append]
 simp only [List.flatMap_cons, List.flatMap_nil, List.append_nil, List.mem_cons, List.not_mem_nil, or_false]
theorem Qln : ∀ l : List Entry, (Qd9 l).length = 2 * l.length
 | [] => rfl
 | x :: l => by
  have := Qln l
  unfold Qd9 at this ⊢
  simp only [List.flatMap_cons, List.length_append, List.length_cons, List.length_nil, this]
  omega
theorem Qn0 (l : List Entry) (hl : l.length ≤ 1048576) : ∃ r, Qbv l = some r ∧ r.Pairwise (· < ·) ∧ (∀ x, x ∈ r ↔ x ∈ Qd9 l) ∧ r.length ≤ 2097152 := by
 obtain ⟨v, h1, h2, h3, h4⟩ := Qgr (n := l.length) (step := Z1 l) (fin := fun v => v)
  (fun i v => v.Pairwise (· < ·) ∧ (∀ x, x ∈ v ↔ x ∈ Qd9 (l.take i)) ∧ v.length ≤ 2 * i)
  (fun i v hi ⟨q1, q2, q3⟩ => by
   obtain ⟨r, e1, e2, e3, e4⟩ := Qo3 v l[i].From q1 (by omega)
   obtain ⟨r', f1, f2, f3, f4⟩ := Qo3 r l[i].To e2 (by omega)
   refine ⟨r', ?_, f2, fun x => ?_, by omega⟩
   ·simp only [Z1, Qn hi, Qd hi, Qj hi, cond_true, Qa, e1, f1, Option.bind_some, Qx (show (i : Int) < 9223372036854775807 by omega)]
   ·rw [f3, e3, q2, Ql6 l i hi, or_assoc])
  (fun v _ => by simp only [Z1, Qu (Nat.le_refl _), cond_false])
  [] ⟨List.Pairwise.nil, fun x => by simp [Qd9], by simp⟩
 refine ⟨v, by unfold Qbv; rw [h1]; rfl, h2, fun x => by rw [h3, List.take_length], by omega⟩
theorem QmX {zs : List Int} (hs : zs.Pairwise (· ≤ ·)) : ∀ m, m ≤ zs.length → (Lib.compactUpTo zs.toArray m).Pairwise (· < ·) ∧ (∀ x, x ∈ Lib.compactUpTo zs.toArray m ↔ x ∈ zs.take m)
 | 0, _ => by simp [Lib.compactUpTo]
 | m + 1, hm => by
  obtain ⟨h1, h2⟩ := QmX hs m (by omega)
  have hmz : m < zs.length := by omega
  have hget : zs.toArray[m]! = zs[m] := by rw [getElem!_pos _ m (by simpa using hmz)]; simp
  rw [Lib.compactUpTo_succ, List.take_succ_eq_append_getElem hmz]
  by_cases h0 : m = 0
  ·subst h0
   rw [Lib.keeps_lt_one _ 0 (by omega), if_pos rfl, hget]
   simp [Lib.compactUpTo]
  ·have hget' : zs.toArray[m - 1]! = zs[m - 1] := by rw [getElem!_pos _ (m - 1) (by simp; omega)]; simp
   have hle : ∀ x ∈ zs.take m, x ≤ zs[m - 1] := by
    intro x hx
    obtain ⟨i, hi, rfl⟩ := List.mem_iff_getElem.1 hx
    rw [List.length_take] at hi
    rw [List.getElem_take]
    by_cases hi' : i = m - 1
    ·subst hi'; omega
    ·exact List.pairwise_iff_getElem.1 hs i (m - 1) (by omega) (by omega) (by omega)
   have hlast : zs[m - 1] ∈ zs.take m := by
    rw [List.mem_iff_getElem]
    exact ⟨m - 1, by rw [List.length_take]; omega, List.getElem_take⟩
   have hstep : zs[m - 1] ≤ zs[m] := List.pairwise_iff_getElem.1 hs (m - 1) m (by omega) (by omega) (by omega)
   by_cases he : zs[m] = zs[m - 1]
   ·rw [Lib.keeps_neg (by omega) (by rw [hget, hget', he])]
    simp only [Bool.false_eq_true, if_false, List.append_nil]
    refine ⟨h1, fun x => ?_⟩
    rw [h2, List.mem_append, List.mem_singleton]
    exact ⟨.inl, fun h => h.elim id fun h => by rw [h, he]; exact hlast⟩
   ·rw [Lib.keeps_pos (by rw [hget, hget']; exact he), if_pos rfl, hget]
    refine ⟨List.pairwise_append.2 ⟨h1, by simp, fun x hx y hy => ?_⟩, fun x => ?_⟩
    ·simp only [List.mem_singleton] at hy
     subst hy
     have := hle x ((h2 x).1 hx)
     omega
    ·rw [List.mem_append, List.mem_append, h2]
theorem Quf (l : List Int) : (XG (Je l)).Pairwise (· < ·) ∧ ∀ x, x ∈ XG (Je l) ↔ x ∈ l := by
 have hs : (Je l).Pairwise (· ≤ ·) := by
  have := List.pairwise_mergeSort (le := fun x y : Int => decide (x ≤ y)) (fun a b c h1 h2 => by simp at *; omega) (fun a b => by simp; omega) l
  unfold Je
  exact this.imp fun h => by simpa using h
 obtain ⟨h1, h2⟩ := QmX hs (Je l).length (Nat.le_refl _)
 refine ⟨h1, fun x => ?_⟩
 have := h2 x
 rw [List.take_length] at this
 exact this.trans (by unfold Je; rw [List.mem_mergeSort])
theorem Qnc (l : List Entry) (hl : l.length ≤ 1048576) : Zb l = some (XG (Je (Qd9 l))) := by
 have hrun : run (Xb l (ln l)) ([], 0) = some (Qd9 l) := by
  have := XH (step := Xb l (ln l)) (fun i => (Qd9 (l.take i), (i : Int))) (r := Qd9 l) l.length (fun i hi => by
    have hlen : (Qd9 (l.take i)).length ≤ 2 * i := by rw [Qln, List.length_take]; omega
    have hrm : rm ((Qd9 (l.take i)).length + 2) 8 = true := by unfold rm; exact decide_eq_true (by omega)
    have he : Qd9 (l.take (i + 1)) = Qd9 (l.take i) ++ [l[i].From, l[i].To] := by unfold Qd9; rw [List.take_succ_eq_append_getElem hi, List.flatMap_append]; rfl
    simp only [Xb, Qn hi, Qd hi, Qj hi, cond_true, Qa, hrm, he, Qx (show (i : Int) < 9223372036854775807 by omega)])
   (by simp only [Xb, Qu (Nat.le_refl _), cond_false, List.take_length])
  simpa [Qd9] using this
 have ha := Qln l
 generalize hacc : Qd9 l = a at *
 have hal : a.length ≤ 2097152 := by omega
 have hl2 : ln [a, []] = 2 := rfl
 have hc : Ze [a, []] = some a := by
  unfold Ze
  have w0 : w64 (0 + ln a) = ln a := by rw [Vb] <;> unfold ln <;> omega
  have w1 : w64 (ln a + ln ([] : List Int)) = ln a := by rw [Vb] <;> unfold ln <;> simp <;> omega
  have hneg : decide (ln a < 0) = false := decide_eq_false (by unfold ln; omega)
  have s0 : Va [a, []] [a, []] (ln [a, []]) (0, 0) = some (.inl (ln a, 1)) := by
   have g0 : gt [a, ([] : List Int)] 0 = a := rfl
   simp only [Va, hl2, g0, show inb [a, ([] : List Int)] 0 = true from rfl, show decide ((0 : Int) < 2) = true from rfl, w0, hneg, cond_true, cond_false, Qa, show w64 (0 + 1) = 1 from rfl]
  have s1 : Va [a, []] [a, []] (ln [a, []]) (ln a, 1) = some (.inl (ln a, 2)) := by
   have g1 : gt [a, ([] : List Int)] 1 = [] := rfl
   simp only [Va, hl2, g1, show inb [a, ([] : List Int)] 1 = true from rfl, show decide ((1 : Int) < 2) = true from rfl, w1, hneg, cond_true, cond_false, Qa, show w64 (1 + 1) = 2 from rfl]
  have s2 : Va [a, []] [a, []] (ln [a, []]) (ln a, 2) = some (.inr (ln a)) := rfl
  have r1 : run (Va [a, []] [a, []] (ln [a, []])) (0, 0) = some (ln a) := by
   rw [Qi, s0]; show run _ (ln a, 1) = _
   rw [Qi, s1]; show run _ (ln a, 2) = _
   rw [Qi, s2]; rfl
  have hg : J8 (ln a) = some [] := by
   unfold J8 nd
   rw [show (decide (0 ≤ ln a) && decide (ln a ≤ 17592186044416)) = true by unfold ln; simp; omega]
   rfl
  have t0 : Vx [a, []] (ln [a, []]) ([], 0) = some (.inl (a, 1)) := by
   have hrm : rm (([] : List Int).length + a.length) 8 = true := by unfold rm; exact decide_eq_true (by simp; omega)
   show (bif decide ((0 : Int) < 2) then nd (inb [a, []] 0) <| nd (rm (([] : List Int).length + a.length) 8) <| some (Sum.inl ([] ++ a, w64 (0 + 1))) else some (Sum.inr [])) = _
   rw [hrm]; rfl
  have t1 : Vx [a, []] (ln [a, []]) (a, 1) = some (.inl (a, 2)) := by
   have hrm : rm (a.length + ([] : List Int).length) 8 = true := by unfold rm; exact decide_eq_true (by simp; omega)
   show (bif decide ((1 : Int) < 2) then nd (inb [a, []] 1) <| nd (rm (a.length + ([] : List Int).length) 8) <| some (Sum.inl (a ++ [], w64 (1 + 1))) else some (Sum.inr a)) = _
   rw [hrm, List.append_nil]; rfl
  have t2 : Vx [a, []] (ln [a, []]) (a, 2) = some (.inr a) := rfl
  have r2 : run (Vx [a, []] (ln [a, []])) ([], 0) = some a := by
   rw [Qi, t0]; show run _ (a, 1) = _
   rw [Qi, t1]; show run _ (a, 2) = _
   rw [Qi, t2]; rfl
  rw [r1]
  simp only [Option.bind_some, hg, r2]
 unfold Zb Qb0
 have hsl : (Je a).length = a.length := by unfold Je; simp
 rw [hrun]
 simp only [Option.bind_some, hc, hsl, show decide (a.length < 4611686018427387904) = true from decide_eq_true (by omega), Qa]
theorem Qqn (l : List Entry) (hl : l.length ≤ 1048576) : ∃ r, Qbv l = some r ∧ Zb l = some r ∧ r.length ≤ 2097152 := by
 obtain ⟨r, h1, h2, h3, h4⟩ := Qn0 l hl
 obtain ⟨q1, q2⟩ := Quf (Qd9 l)
 have : XG (Je (Qd9 l)) = r := QvS q1 h2 fun x => (q2 x).trans (h3 x).symm
 exact ⟨r, h1, by rw [Qnc l hl, this], h4⟩
theorem Qsy (x y : Int) : w64 (w64 x + y) = w64 (x + y) := by unfold w64; omega
theorem QA0 (x y : Int) : w64 (w64 x - y) = w64 (x - y) := by unfold w64; omega
theorem QDd (x y : Int) : w64 (w64 x - w64 y) = w64 (x - y) := by unfold w64; omega
def Qfc (l : List Entry) (a : Int) : Int := (l.map fun x => if x.To = a then x.Cents else 0).sum
def Qby (l : List Entry) (a : Int) : Int := (l.map fun x => if x.From = a then x.Cents else 0).sum
theorem Qk5 (l : List Entry) (a : Int) (i : Nat) (h : i < l.length) : Qfc (l.take (i + 1)) a = Qfc (l.take i) a + (if l[i].To = a then l[i].Cents else 0) := by
 unfold Qfc; rw [List.take_succ_eq_append_getElem h, List.map_append, List.sum_append]; rw [List.map_cons, List.map_nil, List.sum_cons, List.sum_nil, Int.add_zero]
theorem Qip (l : List Entry) (a : Int) (i : Nat) (h : i < l.length) : Qby (l.take (i + 1)) a = Qby (l.take i) a + (if l[i].From = a then l[i].Cents else 0) := by
 unfold Qby; rw [List.take_succ_eq_append_getElem h, List.map_append, List.sum_append]; rw [List.map_cons, List.map_nil, List.sum_cons, List.sum_nil, Int.add_zero]
theorem Qlj (l : List Entry) (a : Int) (hl : l.length ≤ 1048576) : ∃ v, Qa3 l a = some v ∧ Zo l a = some v := by
 obtain ⟨b, e1, e2, e3⟩ := Qho l hl
 cases b with
 | false =>
  refine ⟨0, ?_, by unfold Zo; rw [e2]; rfl⟩
  unfold Qa3
  rw [Qi]
  show Option.bind (Option.bind (Option.bind (bif decide ((0 : Int) < ln l) then (V3 l).bind fun r => some r else some false) _) _) _ = _
  rw [e1]
  by_cases h : (0 : Int) < ln l
  ·rw [decide_eq_true h]; rfl
  ·rw [decide_eq_false h]; rfl
 | true =>
  refine ⟨w64 (Qfc l a - Qby l a), ?_, ?_⟩
  ·unfold Qa3
   have hr : run (Qak l a) (0, 0) = some (w64 (Qfc l a - Qby l a)) := by
    have := XH (step := Qak l a) (fun i => (w64 (Qfc (l.take i) a - Qby (l.take i) a), (i : Int))) (r := w64 (Qfc l a - Qby l a)) l.length (fun i hi => by
      simp only [Qak, Qn hi, Qd hi, Qj hi, cond_true, Qa, e1, Option.bind_some, Qx (show (i : Int) < 9223372036854775807 by omega), Qk5 l a i hi, Qip l a i hi]
      by_cases h1 : l[i].To = a <;> by_cases h2 : l[i].From = a
      ·rw [decide_eq_true h1, decide_eq_true h2, if_pos h1, if_pos h2, cond_true, cond_true, Qsy, QA0]
       exact congrArg (fun z => some (Sum.inl (w64 z, _))) (by omega)
      ·rw [decide_eq_true h1, decide_eq_false h2, if_pos h1, if_neg h2, cond_true, cond_false, Qsy]
       exact congrArg (fun z => some (Sum.inl (w64 z, _))) (by omega)
      ·rw [decide_eq_false h1, decide_eq_true h2, if_neg h1, if_pos h2, cond_false, cond_true, QA0]
       exact congrArg (fun z => some (Sum.inl (w64 z, _))) (by omega)
      ·rw [decide_eq_false h1, decide_eq_false h2, if_neg h1, if_neg h2, cond_false, cond_false]
       exact congrArg (fun z => some (Sum.inl (w64 z, _))) (by omega))
     (by simp only [Qak, Qu (Nat.le_refl _), cond_false, Option.bind_some, List.take_length])
    simpa [Qfc, Qby, w64] using this
   rw [hr]; rfl
  ·unfold Zo Qc7 Qb1
   have h1 : run (Jn a l (ln l)) (0, 0) = some (w64 (Qfc l a)) := by
    have := XH (step := Jn a l (ln l)) (fun i => (w64 (Qfc (l.take i) a), (i : Int))) (r := w64 (Qfc l a)) l.length (fun i hi => by
      simp only [Jn, Qn hi, Qd hi, Qj hi, cond_true, Qa, Qx (show (i : Int) < 9223372036854775807 by omega), Qk5 l a i hi]
      by_cases h1 : l[i].To = a
      ·rw [decide_eq_true h1, if_pos h1, cond_true, Qsy]
      ·rw [decide_eq_false h1, if_neg h1, cond_false, Int.add_zero])
     (by simp only [Jn, Qu (Nat.le_refl _), cond_false, List.take_length])
    simpa [Qfc, w64] using this
   have h2 : run (Xo a l (ln l)) (0, 0) = some (w64 (Qby l a)) := by
    have := XH (step := Xo a l (ln l)) (fun i => (w64 (Qby (l.take i) a), (i : Int))) (r := w64 (Qby l a)) l.length (fun i hi => by
      simp only [Xo, Qn hi, Qd hi, Qj hi, cond_true, Qa, Qx (show (i : Int) < 9223372036854775807 by omega), Qip l a i hi]
      by_cases h1 : l[i].From = a
      ·rw [decide_eq_true h1, if_pos h1, cond_true, Qsy]
      ·rw [decide_eq_false h1, if_neg h1, cond_false, Int.add_zero])
     (by simp only [Xo, Qu (Nat.le_refl _), cond_false, List.take_length])
    simpa [Qby, w64] using this
   simp only [e2, h1, h2, Option.bind_some, Bool.not_true, cond_false, QDd]
theorem Qq2 (l : List Entry) (hl : l.length ≤ 1048576) : ∀ a, Qa3 l a = Zo l a := fun a => by
 obtain ⟨v, h1, h2⟩ := Qlj l a hl
 rw [h1, h2]
theorem QqW (h : House) (hs : Qe h) : ∃ c, Qe5 h = some c ∧ J3 h = some c := by
 obtain ⟨_, _, _, _, _, _, hb⟩ := hs
 obtain ⟨r, a1, a2, a3⟩ := Qqn h.Book hb
 have hl : QbA h r = VL h r (ln r) := by
  funext ⟨v, i⟩
  simp only [QbA, VL, Qq2 h.Book hb]
 obtain ⟨n, hn, _⟩ := Qgr (n := r.length) (step := VL h r (ln r)) (fin := fun v => v) (fun _ _ => True)
  (fun i v hi _ => by
   obtain ⟨x, _, hx⟩ := Qlj h.Book r[i] hb
   exact ⟨_, by simp only [VL, Qn hi, Qd hi, Qj hi, cond_true, Qa, hx, Option.bind_some, Qx (show (i : Int) < 9223372036854775807 by omega)]; rfl, trivial⟩)
  (fun v _ => by simp only [VL, Qu (Nat.le_refl _), cond_false]) 0 trivial
 obtain ⟨x, x1, x2⟩ := Qlj h.Book 0 hb
 refine ⟨bif decide (n = 0) then decide (0 ≤ x) else false, ?_, ?_⟩
 ·unfold Qe5
  simp only [a1, hl, hn, x1, Option.bind_some]
  cases decide (n = 0) <;> rfl
 ·unfold J3
  simp only [a2, hn, x2, Option.bind_some]
  cases decide (n = 0) <;> rfl
end Go.Proofs.YtkbilciipmijjaaGreat
namespace Go.Proofs.YtkbilciipmijjaaGreat
open Go
set_option linter.unusedVariables false
set_option linter.unusedSimpArgs false
theorem QqH (h : House) (hm : Qe h) (ht : Vn h = some true) : (∀ x ∈ h.Slots, 1 ≤ x.Id) ∧ h.Chain.length ≤ 100 ∧ Vy h.Chain = some true ∧ VA h.Chain = some true := by
 obtain ⟨m1, m2, m3, m4, m5, m6, m7⟩ := hm
 obtain ⟨f, f1, f2, f3⟩ := QkA h.Finds m1
 obtain ⟨s, s1, s2⟩ := Qhi h.Secrets m2.1 (fun x hx => m2.2 x hx)
 obtain ⟨t, t1, t2, t3⟩ := Qif h.Slots m3
 obtain ⟨c, c1, c2, c3⟩ := Qc8 h.Claims m4
 obtain ⟨n, n1, n2, n3⟩ := Qkg h.Chain
 unfold Vn at ht
 simp only [Qc, f1, s1, t1, c1, n1, Option.bind_some] at ht
 cases hN : (decide (1 ≤ h.No) && decide (h.No ≤ 9)) with
 | false => rw [hN] at ht; cases ht
 | true =>
 rw [hN] at ht
 cases f with
 | false => cases ht
 | true =>
 cases s with
 | false => cases ht
 | true =>
 cases t with
 | false => cases ht
 | true =>
 cases c with
 | false => cases ht
 | true =>
 cases n with
 | false => cases ht
 | true => exact ⟨(t3 rfl).2, (n3 rfl).1, n1, n2⟩
theorem Qzc (l : List Hand) (t : Int) (hl : l.length ≤ 1048576) : ∃ r, QeE l t = some r ∧ decide (ln r = 0) = decide (VU l t l.length < 0) := by
 have hr := Qqb l (fun x => decide (x.Thing = t)) (fun x => x) (step := Qbq l t)
  (fun i out hi ho => by
   have hrm : rm (out.length + 1) 40 = true := by unfold rm; exact decide_eq_true (by omega)
   simp only [Qbq, Qn hi, Qd hi, Qj hi, Qx (show (i : Int) < 9223372036854775807 by omega), cond_true, Qa, hrm]
   cases decide (l[i].Thing = t) <;> rfl)
  (fun out => by simp only [Qbq, Qu (Nat.le_refl _), cond_false])
 refine ⟨(l.filter fun x => decide (x.Thing = t)).map fun x => x, by unfold QeE; rw [hr]; rfl, ?_⟩
 rw [Bool.eq_iff_iff, decide_eq_true_eq, decide_eq_true_eq]
 unfold ln
 rw [List.length_map]
 constructor
 ·intro h0
  rcases Qez l t l.length with h | ⟨j, hj, h⟩
  ·omega
  ·exfalso
   obtain ⟨_, q⟩ := QeR l t l.length j h
   rw [Qj hj] at q
   have : l[j] ∈ l.filter fun x => decide (x.Thing = t) := List.mem_filter.2 ⟨List.getElem_mem hj, by simpa using q⟩
   have := List.length_pos_of_mem this
   omega
 ·intro h0
  cases hf : l.filter (fun x => decide (x.Thing = t)) with
  | nil => rfl
  | cons x r =>
   exfalso
   have hx : x ∈ l.filter fun x => decide (x.Thing = t) := by rw [hf]; simp
   obtain ⟨h1, h2⟩ := List.mem_filter.1 hx
   obtain ⟨i, hi, rfl⟩ := List.mem_iff_getElem.1 h1
   obtain ⟨j, _, q⟩ := Qgm l t l.length i hi (by rw [Qj hi]; simpa using h2)
   omega
theorem Qo7 (h : House) (hm : Qe h) (ht : Vn h = some true) : ∃ c, Qee h = some c ∧ JL h = some c := by
 obtain ⟨hs, hl, c1, c2⟩ := QqH h hm ht
 obtain ⟨m1, m2, m3, m4, m5, m6, m7⟩ := hm
 obtain ⟨r1, r2, a1, a2, a3, a4, a5⟩ := Qr4 h.Chain h.No hl c1 c2
 obtain ⟨b, b1, b2, _⟩ := Qb4 (n := h.Finds.length) (r := false) (s1 := Zy h r1) (s2 := Xv h r2 h.Finds (ln h.Finds)) (fun i hi _ => by
   obtain ⟨r, e1, e2⟩ := Qzc h.Chain h.Finds[i].Thing.Id m6
   obtain ⟨c, d1, d2⟩ := Qta h.Slots h.Finds[i].Thing.Id m3 hs
   have hsw := Qep h.Slots h.Finds[i].Thing.Id m3
   have hw : decide ((bif decide (h.Finds[i].Thing.Id = 0) then -1 else ZX h.Slots h.Finds[i].Thing.Id) < (0 : Int)) = decide (c = 0) := by
    rw [d2]
    by_cases h0 : h.Finds[i].Thing.Id = 0
    ·rw [decide_eq_true h0]; rfl
    ·rw [decide_eq_false h0]
     rcases Qcs h.Slots h.Finds[i].Thing.Id with ⟨p1, p2⟩ | ⟨k, hk, p1, _, p2⟩
     ·rw [p1, cond_false, p2]; rfl
     ·rw [p2, cond_false, p1, decide_eq_false (show ¬ (k : Int) < 0 by omega)]; rfl
   have hin : decide (h.Finds[i].Thing.Id ∈ r1) = decide (h.Finds[i].Thing.Id ∈ r2) := by
    rw [Bool.eq_iff_iff, decide_eq_true_eq, decide_eq_true_eq]; exact a3 _
   simp only [Zy, Xv, Qn hi, Qd hi, Qj hi, Qx (show (i : Int) < 9223372036854775807 by omega), cond_true, Qa, e1, e2, d1, hsw, hw, QmH h.Chain _ m6,
    QGl r1 _ (by omega), QGN r2 _ (by omega), hin, Option.bind_some]
   cases decide (VU h.Chain h.Finds[i].Thing.Id h.Chain.length < 0) <;> cases decide (c = 0) <;> cases decide (h.Finds[i].Thing.Id ∈ r2) <;> first | exact ⟨true, rfl, rfl⟩ | exact ⟨false, rfl, rfl⟩)
  (by simp only [Zy, Qu (Nat.le_refl _), cond_false]) (by simp only [Xv, Qu (Nat.le_refl _), cond_false])
 refine ⟨b, ?_, ?_⟩
 ·unfold Qee
  simp only [a1, b1, Option.bind_some]
  cases b <;> rfl
 ·unfold JL
  simp only [a2, b2, Option.bind_some]
  cases b <;> rfl
end Go.Proofs.YtkbilciipmijjaaGreat
namespace Go.Proofs.YtkbilciipmijjaaGreat
open Go
set_option linter.unusedVariables false
set_option linter.unusedSimpArgs false
theorem Qmc (a : Int) (m : Nat) (hm : m < 9223372036854775808) : ∃ x, Qd3 .and .i64 a (m : Int) = x ∧ 0 ≤ x ∧ x ≤ (m : Int) := by
 refine ⟨_, rfl, ?_⟩
 have e : ((m : Int) % 2 ^ IntKind.i64.bits).toNat = m := by
  rw [show ((2 : Int) ^ IntKind.i64.bits) = 18446744073709551616 from rfl]; omega
 have h := @Nat.and_le_right (a % 2 ^ IntKind.i64.bits).toNat m
 unfold Qd3
 simp only [e, Qvf]
 rw [Vb (by omega) (by omega)]
 omega
def okC (c : l1Cur) : Prop := c.b.length ≤ 1048576 ∧ 0 ≤ c.i ∧ c.i ≤ c.b.length
theorem QvX (l : List Int) (hl : l.length ≤ 1048576) : ∃ c, Qdd l = some c ∧ okC c := by
 have key : ∀ (m k : Nat) (a : Int), k + m = l.length → ∃ r, run (JG l) (a, (k : Int)) = some r := by
  intro m
  induction m with
  | zero =>
   intro k a hk
   have : k = l.length := by omega
   subst this
   exact ⟨a, by rw [Qi]; simp only [JG, Qu (Nat.le_refl _), Bool.false_and, cond_false, Option.bind_some]⟩
  | succ m ih =>
   intro k a hk
   have hlt : k < l.length := by omega
   cases h4 : decide ((k : Int) < 4000) with
   | false => exact ⟨a, by rw [Qi]; simp only [JG, h4, Bool.and_false, cond_false, Option.bind_some]⟩
   | true =>
    obtain ⟨r, hr⟩ := ih (k + 1) (Qd3 .and .i64 (w64 (w64 (w64 (a * 137) + w64 (gt l (k : Int))) + 11)) 1073741823) (by omega)
    exact ⟨r, by rw [Qi]; simp only [JG, Qn hlt, h4, Bool.and_self, Qd hlt, cond_true, Qa, Qx (show (k : Int) < 9223372036854775807 by omega), Option.bind_some]; exact hr⟩
 obtain ⟨r, hr⟩ := key l.length 0 (w64 (193017 + ln l)) (by omega)
 refine ⟨⟨l, 0, r⟩, ?_, hl, Int.le_refl _, by simp only; omega⟩
 unfold Qdd
 rw [show run (JG l) (w64 (193017 + ln l), 0) = some r from hr]; rfl
theorem QnP (a : Int) : 0 ≤ Qd3 .and .i64 a 255 ∧ Qd3 .and .i64 a 255 ≤ 255 := by
 obtain ⟨x, e, h0, h1⟩ := Qmc a 255 (by omega)
 rw [show ((255 : Nat) : Int) = 255 from rfl] at e h1
 rw [e]; exact ⟨h0, h1⟩
theorem Qgd (c : l1Cur) (h : okC c) : ∃ c' x, Z0 c = some (c', x) ∧ okC c' ∧ 0 ≤ x ∧ x ≤ 255 := by
 obtain ⟨h1, h2, h3⟩ := h
 unfold Z0
 by_cases hi : c.i < ln c.b
 ·have hb : inb c.b c.i = true := by rw [Qcx]; rw [Vz] at hi; omega
  rw [Vz] at hi
  rw [decide_eq_true (show c.i < ln c.b from hi), hb]
  have e : w64 (c.i + 1) = c.i + 1 := Vb (by omega) (by omega)
  refine ⟨_, _, rfl, ⟨h1, ?_, ?_⟩, (QnP _).1, (QnP _).2⟩
  ·show 0 ≤ w64 (c.i + 1)
   omega
  ·show w64 (c.i + 1) ≤ (c.b.length : Int)
   omega
 ·rw [decide_eq_false hi]
  exact ⟨_, _, rfl, ⟨h1, h2, h3⟩, (QnP _).1, (QnP _).2⟩
theorem Qrp {x n : Int} (hx : 0 ≤ x) (hn : 0 < n) : 0 ≤ x.tmod n ∧ x.tmod n < n := ⟨Int.tmod_nonneg _ hx, Int.tmod_lt_of_pos x hn⟩
theorem QD (c : l1Cur) (n : Int) (h : okC c) : ∃ c' x, Ql c n = some (c', x) ∧ okC c' ∧ 0 ≤ x ∧ (0 < n → x < n) := by
 unfold Ql
 by_cases h0 : n ≤ 0
 ·rw [decide_eq_true h0]; exact ⟨c, 0, rfl, h, Int.le_refl _, fun hn => by omega⟩
 ·have hz : (!decide (n = 0)) = true := by simp; omega
  rw [decide_eq_false h0, hz]
  by_cases h1 : n ≤ 256
  ·rw [decide_eq_true h1]
   obtain ⟨c1, x1, e1, k1, l1, u1⟩ := Qgd c h
   have := Qrp l1 (show 0 < n by omega)
   exact ⟨c1, x1.tmod n, by simp only [e1, cond_false, cond_true, Option.bind_some, Qa], k1, this.1, fun _ => this.2⟩
  ·rw [decide_eq_false h1]
   obtain ⟨c1, x1, e1, k1, l1, u1⟩ := Qgd c h
   obtain ⟨c2, x2, e2, k2, l2, u2⟩ := Qgd c1 k1
   obtain ⟨c3, x3, e3, k3, l3, u3⟩ := Qgd c2 k2
   have e4 : w64 (w64 (w64 (x1 * 65536) + w64 (x2 * 256)) + x3) = x1 * 65536 + x2 * 256 + x3 := by
    rw [Vb (n := x1 * 65536) (by omega) (by omega), Vb (n := x2 * 256) (by omega) (by omega), Vb (n := x1 * 65536 + x2 * 256) (by omega) (by omega), Vb (by omega) (by omega)]
   have := Qrp (show 0 ≤ x1 * 65536 + x2 * 256 + x3 by omega) (show 0 < n by omega)
   exact ⟨c3, (x1 * 65536 + x2 * 256 + x3).tmod n, by simp only [e1, e2, e3, e4, cond_false, Option.bind_some, Qa], k3, this.1, fun _ => this.2⟩
theorem QfN (c : l1Cur) (l : List Int) (h : okC c) (hl : 0 < l.length) : ∃ c' x, X0 c l = some (c', x) ∧ okC c' ∧ x ∈ l := by
 obtain ⟨c1, x1, e1, k1, l1, u1⟩ := QD c (ln l) h
 have hlt := u1 (by rw [Vz]; omega)
 rw [Vz] at hlt
 obtain ⟨k, rfl⟩ : ∃ k : Nat, x1 = (k : Int) := ⟨x1.toNat, by omega⟩
 have hi : k < l.length := by omega
 refine ⟨c1, l[k], ?_, k1, List.getElem_mem hi⟩
 unfold X0
 rw [e1]
 simp only [Option.bind_some, Qd hi, Qj hi, Qa]
end Go.Proofs.YtkbilciipmijjaaGreat
namespace Go.Proofs.YtkbilciipmijjaaGreat
open Go
set_option linter.unusedVariables false
set_option linter.unusedSimpArgs false
theorem QuJ (l : List Slot) (hl : l.length ≤ 1048576) (h : ∀ x ∈ l, x.Thing = 0) : QaL l = some (ln l) := by
 have h1 := XH (step := Xt l) (fun i => ((i : Int), (i : Int))) (r := (l.length : Int)) l.length (fun i hi => by
   have h0 : decide (l[i].Thing = 0) = true := decide_eq_true (h _ (List.getElem_mem hi))
   simp only [Xt, Qn hi, Qd hi, Qj hi, h0, cond_true, Qa, Qx (show (i : Int) < 9223372036854775807 by omega)])
  (by simp only [Xt, Qu (Nat.le_refl _), cond_false])
 unfold QaL
 rw [show run (Xt l) (0, 0) = _ from h1]; rfl
theorem Qt0 (h : House) (m3 : h.Slots.length ≤ 1048576) (hf : h.Finds = []) (hk : JC h = some true) : ∀ x ∈ h.Slots, x.Thing = 0 := by
 unfold JC at hk
 cases hd : (!decide (ln h.Secrets = ln h.Finds)) with
 | true => rw [hd] at hk; cases hk
 | false =>
 rw [hd, cond_false] at hk
 cases hr : Z7 h.Chain h.No with
 | none => rw [hr] at hk; cases hk
 | some r =>
 rw [hr] at hk
 simp only [Option.bind_some] at hk
 cases h5 : run (Xz h r h.Finds (ln h.Finds)) 0 with
 | none => rw [h5] at hk; cases hk
 | some o =>
 rw [h5] at hk
 cases o with
 | ret b =>
  exfalso
  rw [hf] at h5
  rw [Qi] at h5
  have : decide ((0 : Int) < ln ([] : List Find)) = false := by decide
  simp only [Xz, this, cond_false, Option.bind_some] at h5
  cases h5
 | brk u =>
 simp only [Option.bind_some, evO] at hk
 have m1 : h.Finds.length ≤ 1048576 := by rw [hf]; simp
 have t3 := Qcw h.Slots (fun x => decide (x.Thing = 0) || !decide (Vv h.Finds x.Thing < 0)) (r := false) (step := VS h r h.Slots (ln h.Slots))
  (fun i hi => by
   simp only [VS, Qn hi, Qd hi, Qj hi, Qx (show (i : Int) < 9223372036854775807 by omega), cond_true, Qa, (VR h.Finds _ m1).2, Option.bind_some]
   cases decide (h.Slots[i].Thing = 0) <;> cases decide (Vv h.Finds h.Slots[i].Thing < 0) <;> rfl)
  (by simp only [VS, Qu (Nat.le_refl _), cond_false])
 rw [t3] at hk
 cases ha : h.Slots.all (fun x => decide (x.Thing = 0) || !decide (Vv h.Finds x.Thing < 0)) with
 | false => rw [ha] at hk; cases hk
 | true =>
  intro x hx
  have := List.all_eq_true.1 ha x hx
  rw [hf] at this
  simpa [Vv] using this
theorem QwO (no : Int) (l : List Slot) (hl : l.length ≤ 1048576) : ∃ r, Qbd no l = some r ∧ QgZ no l = some r ∧ Qe r.1 := by
 have hm : Qe ⟨no, [], [], l, [], [], [], [], 0⟩ := ⟨by simp, ⟨by simp, by simp⟩, hl, by simp, by simp, by simp, by simp⟩
 have h0 : Qe ⟨0, [], [], [], [], [], [], [], 0⟩ := ⟨by simp, ⟨by simp, by simp⟩, by simp, by simp, by simp, by simp, by simp⟩
 obtain ⟨b, b1, b2⟩ := QnS _ hm
 unfold Qbd QgZ VX
 simp only [QaA _ hm, Vd (show 0 + l.length ≤ 2000000 by omega) (show 24 ≤ 1024 by omega), Qa, Option.bind_some, b1, b2]
 cases b with
 | false => exact ⟨_, rfl, rfl, h0⟩
 | true =>
  have hk := (Qss _ hm b2).kept
  have hfree := QuJ l hl (Qt0 _ hl rfl hk)
  simp only [hfree, Bool.not_true, cond_false, Option.bind_some, decide_true]
  exact ⟨_, rfl, rfl, hm⟩
end Go.Proofs.YtkbilciipmijjaaGreat
namespace Go.Proofs.YtkbilciipmijjaaGreat
open Go
set_option linter.unusedVariables false
set_option linter.unusedSimpArgs false
theorem Qpy (c : l1Cur) (h : okC c) : ∃ c' l, Qbj c = some (c', l) ∧ okC c' ∧ l.length ≤ 100 := by
 have key : ∀ (m : Nat) (c : l1Cur) (l : List Slot) (i : Int), okC c → i + (m : Int) = 8 → 0 ≤ i → l.length + m ≤ 100 → ∃ c' l', run JR (c, l, i) = some (c', l') ∧ okC c' ∧ l'.length ≤ 100 := by
  intro m
  induction m with
  | zero =>
   intro c l i hc hi h0 hl
   obtain ⟨c1, x1, e1, k1, l1, u1⟩ := QD c 5 hc
   have u1 := u1 (by omega)
   refine ⟨c1, l, ?_, k1, by omega⟩
   rw [Qi]
   simp only [JR, e1, Option.bind_some, show w64 (3 + x1) = 3 + x1 from Vb (by omega) (by omega), decide_eq_false (show ¬ i ≤ 3 + x1 by omega), cond_false]
  | succ m ih =>
   intro c l i hc hi h0 hl
   obtain ⟨c1, x1, e1, k1, l1, u1⟩ := QD c 5 hc
   have u1 := u1 (by omega)
   obtain ⟨c2, x2, e2, k2, _⟩ := QD c1 4 k1
   rw [Qi]
   simp only [JR, e1, e2, Option.bind_some, show w64 (3 + x1) = 3 + x1 from Vb (by omega) (by omega), Vd (show l.length + 1 ≤ 2000000 by omega) (show 24 ≤ 1024 by omega), Qa, show w64 (i + 1) = i + 1 from Vb (by omega) (by omega)]
   by_cases hd : i ≤ 3 + x1
   ·rw [decide_eq_true hd]
    exact ih c2 _ (i + 1) k2 (by omega) (by omega) (by simp; omega)
   ·rw [decide_eq_false hd]
    exact ⟨c1, l, rfl, k1, by omega⟩
 obtain ⟨c', l', r1, r2, r3⟩ := key 7 c [] 1 h (by omega) (by omega) (by simp)
 exact ⟨c', l', by unfold Qbj; rw [r1]; rfl, r2, r3⟩
theorem Qom (c : l1Cur) (h : okC c) : ∃ c' a, Qbe c = some (c', a) ∧ okC c' ∧ Qe a := by
 obtain ⟨c1, x1, e1, k1, _⟩ := QD c 3 h
 obtain ⟨c2, l, e2, k2, n2⟩ := Qpy c1 k1
 obtain ⟨r, r1, _, r3⟩ := QwO (w64 (1 + x1)) l (by omega)
 exact ⟨c2, r.1, by unfold Qbe; simp only [e1, e2, r1, Option.bind_some], k2, r3⟩
theorem Qtg (c : l1Cur) (i : Int) (h : okC c) : ∃ c' x, QcB c i = some (c', x) ∧ okC c' := by
 obtain ⟨c1, x1, e1, k1, _⟩ := QD c 8 h
 obtain ⟨c2, x2, e2, k2, _⟩ := QD c1 8 k1
 obtain ⟨c3, x3, e3, k3, _⟩ := QD c2 20 k2
 obtain ⟨c4, x4, e4, k4, _⟩ := QD c3 500 k3
 exact ⟨c4, _, by unfold QcB; simp only [e1, e2, e3, e4, Option.bind_some]; rfl, k4⟩
theorem Qui (c : l1Cur) (i : Int) (h : okC c) : ∃ c' x, QcJ c i = some (c', x) ∧ okC c' := by
 obtain ⟨c1, x1, e1, k1⟩ := Qtg c i h
 obtain ⟨c2, x2, e2, k2, _⟩ := QD c1 6 k1
 obtain ⟨c3, x3, e3, k3, _⟩ := QD c2 80 k2
 obtain ⟨c4, x4, e4, k4, _⟩ := QD c3 5 k3
 exact ⟨c4, _, by unfold QcJ; simp only [e1, e2, e3, e4, Option.bind_some]; rfl, k4⟩
theorem QhA (c : l1Cur) (i : Int) (h : okC c) : ∃ c' x, Z4 c i = some (c', x) ∧ okC c' ∧ ZL x := by
 obtain ⟨c1, x1, e1, k1⟩ := Qui c i h
 obtain ⟨c2, x2, e2, k2, _⟩ := QD c1 12 k1
 obtain ⟨c3, x3, e3, k3, _⟩ := QfN c2 [0, 900, 5000, 5001, 60000] k2 (by simp)
 obtain ⟨c4, x4, e4, k4, _⟩ := QD c3 3 k3
 obtain ⟨c5, x5, e5, k5, _⟩ := QD c4 3 k4
 exact ⟨c5, _, by unfold Z4; simp only [e1, e2, e3, e4, e5, Option.bind_some]; rfl, k5, by simp [ZL]⟩
theorem Qtr (c : l1Cur) (h : okC c) : ∃ c' l, QcK c = some (c', l) ∧ okC c' ∧ l.length ≤ 100 := by
 have key : ∀ (m : Nat) (c : l1Cur) (l : List Bid) (i : Int), okC c → i + (m : Int) = 7 → 0 ≤ i → l.length + m ≤ 100 → ∃ c' l', run ZK (c, l, i) = some (c', l') ∧ okC c' ∧ l'.length ≤ 100 := by
  intro m
  induction m with
  | zero =>
   intro c l i hc hi h0 hl
   obtain ⟨c1, x1, e1, k1, l1, u1⟩ := QD c 7 hc
   have u1 := u1 (by omega)
   refine ⟨c1, l, ?_, k1, by omega⟩
   rw [Qi]
   simp only [ZK, e1, Option.bind_some, decide_eq_false (show ¬ i ≤ x1 by omega), cond_false]
  | succ m ih =>
   intro c l i hc hi h0 hl
   obtain ⟨c1, x1, e1, k1, l1, u1⟩ := QD c 7 hc
   obtain ⟨c2, x2, e2, k2, _⟩ := QD c1 12 k1
   obtain ⟨s, hs⟩ := Qmx [7, i, w64 (1 + x2)] (by simp)
   have hsb : QbY 7 i (w64 (1 + x2)) = some s := by unfold QbY; rw [hs]; rfl
   rw [Qi]
   simp only [ZK, e1, e2, hsb, Option.bind_some, Vd (show l.length + 1 ≤ 2000000 by omega) (show 24 ≤ 1024 by omega), Qa, show w64 (i + 1) = i + 1 from Vb (by omega) (by omega)]
   by_cases hd : i ≤ x1
   ·rw [decide_eq_true hd]
    exact ih c2 _ (i + 1) k2 (by omega) (by omega) (by simp; omega)
   ·rw [decide_eq_false hd]
    exact ⟨c1, l, rfl, k1, by omega⟩
 obtain ⟨c1, l, r1, k1, n1⟩ := key 6 c [] 1 h (by omega) (by omega) (by simp)
 unfold QcK
 rw [r1]
 simp only [Option.bind_some]
 by_cases h0 : 0 < ln l
 ·rw [decide_eq_true h0]
  obtain ⟨c2, x2, e2, k2, l2, u2⟩ := QD c1 (ln l) k1
  have u2 := u2 h0
  rw [Vz] at u2
  have hin : inb l x2 = true := by rw [Qcx]; omega
  obtain ⟨c3, x3, e3, k3, _⟩ := QD c2 10 k2
  obtain ⟨c4, x4, e4, k4, _⟩ := QfN c3 [0, 1, 999, 1000] k3 (by simp)
  obtain ⟨c5, x5, e5, k5, _⟩ := QfN c3 [0, 10000000, 10000001] k3 (by simp)
  simp only [e2, e3, e4, e5, hin, Option.bind_some, cond_true, Qa]
  cases decide (x3 = 0) with
  | true => exact ⟨_, _, rfl, k4, by rw [List.length_set]; exact n1⟩
  | false =>
  cases decide (x3 = 1) with
  | true => exact ⟨_, _, rfl, k5, by rw [List.length_set]; exact n1⟩
  | false => exact ⟨_, _, rfl, k3, n1⟩
 ·rw [decide_eq_false h0]
  exact ⟨c1, l, rfl, k1, n1⟩
theorem QtJ (c : l1Cur) (h : okC c) : ∃ c' x, QcI c = some (c', x) ∧ okC c' ∧ ZL x := by
 obtain ⟨c1, x1, e1, k1, _⟩ := QfN c [1, 2, 2, 3, 3, 3, 3, 4, 4, 5, 6, 7] h (by simp)
 obtain ⟨c2, x2, e2, k2, _⟩ := QD c1 4 k1
 obtain ⟨c3, x3, e3, k3, _⟩ := QD c2 5 k2
 obtain ⟨c4, x4, e4, k4, _⟩ := QD c3 3 k3
 obtain ⟨c5, x5, e5, k5, _⟩ := QD c4 6 k4
 obtain ⟨c6, x6, e6, k6, s6⟩ := QhA c5 (w64 (2 * (w64 (1 + x5)))) k5
 obtain ⟨c7, x7, e7, k7, _⟩ := QD c4 3 k4
 obtain ⟨c8, x8, e8, k8, n8⟩ := Qtr c4 k4
 obtain ⟨c9, x9, e9, k9, _⟩ := QfN c4 [1, 24, 2160, 4320] k4 (by simp)
 unfold QcI
 simp only [e1, e2, e3, e4, e5, e6, e7, e8, e9, Option.bind_some]
 cases decide (x1 = 1) with
 | true => exact ⟨_, _, rfl, k6, s6⟩
 | false =>
 cases decide (x1 = 3) with
 | true => exact ⟨_, _, rfl, k7, by simp [ZL]⟩
 | false =>
 cases decide (x1 = 5) with
 | true => exact ⟨_, _, rfl, k8, by simp [ZL]; omega⟩
 | false =>
 cases decide (x1 = 7) with
 | true => exact ⟨_, _, rfl, k9, by simp [ZL]⟩
 | false => exact ⟨_, _, rfl, k4, by simp [ZL]⟩
theorem QqP (c : l1Cur) (n : Int) (h : okC c) (hn : n ≤ 1000) : ∃ c' l, Qb9 c n = some (c', l) ∧ okC c' ∧ l.length ≤ 2000 ∧ ∀ x ∈ l, ZL x := by
 have key : ∀ (m : Nat) (c : l1Cur) (l : List Event), okC c → l.length + m ≤ 2000 → (∀ x ∈ l, ZL x) → ∃ c' l', run Za (c, l, (m : Int)) = some (c', l') ∧ okC c' ∧ l'.length ≤ 2000 ∧ ∀ x ∈ l', ZL x := by
  intro m
  induction m with
  | zero =>
   intro c l hc hl hx
   exact ⟨c, l, by rw [Qi]; simp only [Za, show decide ((0 : Int) < ((0 : Nat) : Int)) = false from rfl, cond_false, Option.bind_some], hc, by omega, hx⟩
  | succ m ih =>
   intro c l hc hl hx
   obtain ⟨c1, x1, e1, k1, s1⟩ := QtJ c hc
   obtain ⟨c', l', r1, r2, r3, r4⟩ := ih c1 (l ++ [x1]) k1 (by simp; omega) (fun x hx' => by
    rcases List.mem_append.1 hx' with hx' | hx'
    ·exact hx x hx'
    ·rw [List.mem_singleton.1 hx']; exact s1)
   refine ⟨c', l', ?_, r2, r3, r4⟩
   rw [Qi]
   simp only [Za, decide_eq_true (show (0 : Int) < ((m + 1 : Nat) : Int) by omega), e1, cond_true, Option.bind_some, Vd (show l.length + 1 ≤ 2000000 by omega) (show 144 ≤ 1024 by omega), Qa, show w64 (((m + 1 : Nat) : Int) - 1) = (m : Int) from by rw [Vb] <;> omega]
   exact r1
 obtain ⟨c1, x1, e1, k1, s1⟩ := QhA c 2 h
 obtain ⟨c2, x2, e2, k2, s2⟩ := QhA c1 4 k1
 obtain ⟨c3, x3, e3, k3, l3, u3⟩ := QD c2 n k2
 have hx3 : x3 < 1000 := by
  by_cases h0 : 0 < n
  ·have := u3 h0; omega
  ·unfold Ql at e3
   rw [decide_eq_true (show n ≤ 0 by omega)] at e3
   injection e3 with e3; injection e3 with _ e3
   omega
 obtain ⟨k, rfl⟩ : ∃ k : Nat, x3 = (k : Int) := ⟨x3.toNat, by omega⟩
 obtain ⟨c', l', r1, r2, r3, r4⟩ := key k c3 [x1, x2, (⟨7, ⟨⟨0, 0, 0, 0, 0⟩, 0, 0, 0⟩, [], 0, 0, 5, []⟩ : Event)] k3 (by simp; omega) (by
  intro x hx
  simp only [List.mem_cons, List.not_mem_nil, or_false] at hx
  rcases hx with rfl | rfl | rfl
  ·exact s1
  ·exact s2
  ·simp [ZL])
 exact ⟨c', l', by unfold Qb9; simp only [e1, e2, e3, Option.bind_some]; rw [r1]; rfl, r2, r3, r4⟩
theorem Qy5 (h : House) (l : List Event) (hm : Qe h) (hl : l.length ≤ 1048576) (he : ∀ e ∈ l, ZL e) : ∃ r, QaK h l = some r ∧ Qe r := by
 have key : ∀ (m i : Nat) (x : House), i + m = l.length → Qe x → ∃ r, run (VY l) (x, (i : Int)) = some r ∧ Qe r := by
  intro m
  induction m with
  | zero =>
   intro i x hi hx
   have : i = l.length := by omega
   subst this
   exact ⟨x, by rw [Qi]; simp only [VY, Qu (Nat.le_refl _), cond_false, Option.bind_some], hx⟩
  | succ m ih =>
   intro i x hi hx
   have hlt : i < l.length := by omega
   obtain ⟨y, y1, _, y3⟩ := Qqa x l[i] hx (he _ (List.getElem_mem hlt))
   obtain ⟨r, r1, r3⟩ := ih (i + 1) y.1 (by omega) y3
   refine ⟨r, ?_, r3⟩
   rw [Qi]
   simp only [VY, Qn hlt, Qd hlt, Qj hlt, cond_true, Qa, y1, Option.bind_some, Qx (show (i : Int) < 9223372036854775807 by omega)]
   exact r1
 obtain ⟨r, r1, r3⟩ := key l.length 0 h (by omega) hm
 refine ⟨r, ?_, r3⟩
 unfold QaK
 rw [QaA h hm]
 show (run (VY l) (h, 0)).bind _ = _
 rw [show run (VY l) (h, 0) = some r from r1]; rfl
theorem QqR (c : l1Cur) (h : okC c) : ∃ c' a, Qcd c = some (c', a) ∧ okC c' ∧ Qe a := by
 obtain ⟨c1, a1, e1, k1, s1⟩ := Qom c h
 obtain ⟨c2, l, e2, k2, n2, hx⟩ := QqP c1 12 k1 (by omega)
 obtain ⟨a, e3, s3⟩ := Qy5 a1 l s1 (by omega) hx
 obtain ⟨c4, x4, e4, k4, _⟩ := QD c2 10 k2
 obtain ⟨c5, x5, e5, k5, _⟩ := QD c4 3 k4
 obtain ⟨m1, m2, m3, m4, m5, m6, m7⟩ := s3
 obtain ⟨r6, e6, _, q6⟩ := Qnm a.Chain (⟨2, w64 (3 + x5), 9, a.Now, 0⟩ : Hand) m6
 obtain ⟨r7, e7, _, q7, _⟩ := QsP a.Slots 2 m3
 obtain ⟨r8, e8, _, q8⟩ := QlG a.Book (⟨0, 3, 99999, a.Now⟩ : Entry) m7
 unfold Qcd
 simp only [e1, e2, e3, e4, e5, e6, e7, e8, Option.bind_some]
 cases decide (x4 = 0) with
 | true => exact ⟨_, _, rfl, k4, m1, m2, m3, m4, m5, m6, m7⟩
 | false =>
 cases decide (x4 = 1) with
 | true => exact ⟨_, _, rfl, k4, m1, m2, by simp, m4, m5, m6, m7⟩
 | false =>
 cases decide (x4 = 2) with
 | true => exact ⟨_, _, rfl, k5, m1, m2, by simp only; omega, m4, m5, q6, m7⟩
 | false =>
 cases decide (x4 = 3) with
 | true => exact ⟨_, _, rfl, k4, m1, m2, m3, m4, m5, m6, q8⟩
 | false => exact ⟨_, _, rfl, k4, m1, m2, m3, m4, m5, m6, m7⟩
theorem QiL (c : List Int) (hc : c.length ≤ 1048576) : ∃ a, X7 c = some a ∧ Qe a := by
 obtain ⟨cu, e0, k0⟩ := QvX c hc
 obtain ⟨c1, a, e1, _, s1⟩ := QqR cu k0
 exact ⟨a, by unfold X7; simp only [e0, e1, Option.bind_some], s1⟩
end Go.Proofs.YtkbilciipmijjaaGreat
