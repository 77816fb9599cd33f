import Derived.Test.YtkbilciipmijjaaGreatPz1
import Derived.Test.YtkbilciipmijjaaGreatPz4
import Derived.Test.YtkbilciipmijjaaGreatFam
import Derived.Test.YtkbilciipmijjaaGreatPz2
namespace Go.Proofs.YtkbilciipmijjaaGreat
open Go
set_option linter.unusedVariables false
set_option linter.unusedSimpArgs false
theorem Quk (l : List Slot) (hl : l.length ≤ 1048576) (h : ∀ x ∈ l, x.Thing = 0) : Qat l = some (ln l) := by
 have h1 := Zn (step := Xu l) (fun i => ((i : Int), (i : Int))) (r := (l.length : Int)) l.length (fun i hi => by
   have h0 : decide (l[i].Thing = 0) = true := decide_eq_true (h _ (List.getElem_mem hi))
   simp only [Xu, Qo hi, Qd hi, Qn hi, h0, cond_true, Qa, QD (show (i : Int) < 9223372036854775807 by omega)])
  (by simp only [Xu, Qx (Nat.le_refl _), cond_false])
 unfold Qat
 rw [show run (Xu l) (0, 0) = _ from h1]; rfl
theorem Qtr (h : House) (m3 : h.Slots.length ≤ 1048576) (hf : h.Finds = []) (hk : JB h = some true) : ∀ x ∈ h.Slots, x.Thing = 0 := by
 unfold JB at hk
 cases hd : (!decide (ln h.Secrets = ln h.Finds)) with
 | true => rw [hd] at hk; cases hk
 | false =>
 rw [hd, cond_false] at hk
 cases hr : QaP h.Chain h.No with
 | none => rw [hr] at hk; cases hk
 | some r =>
 rw [hr] at hk
 simp only [Option.bind_some] at hk
 cases h5 : run (XA h r h.Finds (ln h.Finds)) 0 with
 | none => rw [h5] at hk; cases hk
 | some o =>
 rw [h5] at hk
 cases o with
 | ret b =>
  exfalso
  rw [hf] at h5
  rw [Qf] at h5
  have : decide ((0 : Int) < ln ([] : List Find)) = false := by decide
  simp only [XA, this, cond_false, Option.bind_some] at h5
  cases h5
 | brk u =>
 simp only [Option.bind_some, evO] at hk
 have m1 : h.Finds.length ≤ 1048576 := by rw [hf]; simp
 have t3 := Qf1 h.Slots (fun x => decide (x.Thing = 0) || !decide (XC h.Finds x.Thing < 0)) (r := false) (step := VK h r h.Slots (ln h.Slots))
  (fun i hi => by
   simp only [VK, Qo hi, Qd hi, Qn hi, QD (show (i : Int) < 9223372036854775807 by omega), cond_true, Qa, (Xg h.Finds _ m1).2, Option.bind_some]
   cases decide (h.Slots[i].Thing = 0) <;> cases decide (XC h.Finds h.Slots[i].Thing < 0) <;> rfl)
  (by simp only [VK, Qx (Nat.le_refl _), cond_false])
 rw [t3] at hk
 cases ha : h.Slots.all (fun x => decide (x.Thing = 0) || !decide (XC h.Finds x.Thing < 0)) with
 | false => rw [ha] at hk; cases hk
 | true =>
  intro x hx
  have := List.all_eq_true.1 ha x hx
  rw [hf] at this
  simpa [XC] using this
theorem QwS (no : Int) (l : List Slot) (hl : l.length ≤ 1048576) : ∃ r, Qbe no l = some r ∧ Qgt no l = some r ∧ Qg r.1 := by
 have hm : Qg ⟨no, [], [], l, [], [], [], [], 0⟩ := ⟨by simp, ⟨by simp, by simp⟩, hl, by simp, by simp, by simp, by simp⟩
 have h0 : Qg ⟨0, [], [], [], [], [], [], [], 0⟩ := ⟨by simp, ⟨by simp, by simp⟩, by simp, by simp, by simp, by simp, by simp⟩
 obtain ⟨b, b1, b2⟩ := Qnv _ hm
 unfold Qbe Qgt VR
 simp only [Qao _ hm, Vc (show 0 + l.length ≤ 2000000 by omega) (show 24 ≤ 1024 by omega), Qa, Option.bind_some, b1, b2]
 cases b with
 | false => exact ⟨_, rfl, rfl, h0⟩
 | true =>
  have hk := (Qsh _ hm b2).kept
  have hfree := Quk l hl (Qtr _ hl rfl hk)
  simp only [hfree, Bool.not_true, cond_false, Option.bind_some, decide_true]
  exact ⟨_, rfl, rfl, hm⟩
end Go.Proofs.YtkbilciipmijjaaGreat
namespace Go.Proofs.YtkbilciipmijjaaGreat
open Go
set_option linter.unusedVariables false
set_option linter.unusedSimpArgs false
theorem Qog (c : l1Cur) (h : okC c) : ∃ c' l, Qbd c = some (c', l) ∧ okC c' ∧ l.length ≤ 100 := by
 have key : ∀ (m : Nat) (c : l1Cur) (l : List Slot) (i : Int), okC c → i + (m : Int) = 8 → 0 ≤ i → l.length + m ≤ 100 → ∃ c' l', run JW (c, l, i) = some (c', l') ∧ okC c' ∧ l'.length ≤ 100 := by
  intro m
  induction m with
  | zero =>
   intro c l i hc hi h0 hl
   obtain ⟨c1, x1, e1, k1, l1, u1⟩ := Qk c 5 hc
   have u1 := u1 (by omega)
   refine ⟨c1, l, ?_, k1, by omega⟩
   rw [Qf]
   simp only [JW, e1, Option.bind_some, show w64 (3 + x1) = 3 + x1 from QW (by omega) (by omega), decide_eq_false (show ¬ i ≤ 3 + x1 by omega), cond_false]
  | succ m ih =>
   intro c l i hc hi h0 hl
   obtain ⟨c1, x1, e1, k1, l1, u1⟩ := Qk c 5 hc
   have u1 := u1 (by omega)
   obtain ⟨c2, x2, e2, k2, _⟩ := Qk c1 4 k1
   rw [Qf]
   simp only [JW, e1, e2, Option.bind_some, show w64 (3 + x1) = 3 + x1 from QW (by omega) (by omega), Vc (show l.length + 1 ≤ 2000000 by omega) (show 24 ≤ 1024 by omega), Qa, show w64 (i + 1) = i + 1 from QW (by omega) (by omega)]
   by_cases hd : i ≤ 3 + x1
   ·rw [decide_eq_true hd]
    exact ih c2 _ (i + 1) k2 (by omega) (by omega) (by simp; omega)
   ·rw [decide_eq_false hd]
    exact ⟨c1, l, rfl, k1, by omega⟩
 obtain ⟨c', l', r1, r2, r3⟩ := key 7 c [] 1 h (by omega) (by omega) (by simp)
 exact ⟨c', l', by unfold Qbd; rw [r1]; rfl, r2, r3⟩
theorem QmF (c : l1Cur) (i : Int) (h : okC c) : ∃ c' x, Qbv c i = some (c', x) ∧ okC c' ∧ x.Id = i := by
 obtain ⟨c1, x1, e1, k1, _⟩ := Qk c 8 h
 obtain ⟨c2, x2, e2, k2, _⟩ := Qk c1 8 k1
 obtain ⟨c3, x3, e3, k3, _⟩ := Qk c2 20 k2
 obtain ⟨c4, x4, e4, k4, _⟩ := Qk c3 500 k3
 exact ⟨c4, _, by unfold Qbv; simp only [e1, e2, e3, e4, Option.bind_some]; rfl, k4, rfl⟩
theorem Qmz (c : l1Cur) (i : Int) (h : okC c) : ∃ c' x, Qbw c i = some (c', x) ∧ okC c' := by
 obtain ⟨c1, x1, e1, k1, _⟩ := QmF c i h
 obtain ⟨c2, x2, e2, k2, _⟩ := Qk c1 6 k1
 obtain ⟨c3, x3, e3, k3, _⟩ := Qk c2 80 k2
 obtain ⟨c4, x4, e4, k4, _⟩ := Qk c3 5 k3
 exact ⟨c4, _, by unfold Qbw; simp only [e1, e2, e3, e4, Option.bind_some]; rfl, k4⟩
theorem Qb0 {B : Type} {b : Bool} {q : Option B} {r : B} (h : (nd b <| q) = some r) : b = true ∧ q = some r := by
 cases b with
 | false => cases h
 | true => exact ⟨rfl, h⟩
theorem QnY {A : Type} {l : List A} {a b : Int} {x : A} (h : x ∈ cut l a b) : x ∈ l := by
 unfold cut at h
 exact List.mem_of_mem_take (List.mem_of_mem_drop h)
theorem Qrn {A : Type} [Inhabited A] {l : List A} {i : Int} (h : inb l i = true) : gt l i ∈ l := by
 rw [QaK] at h
 obtain ⟨k, rfl⟩ : ∃ k : Nat, i = (k : Int) := ⟨i.toNat, by omega⟩
 have hk : k < l.length := by omega
 rw [Qn hk]; exact List.getElem_mem hk
theorem Qov {A : Type} {l : List A} {n : Nat} {x y : A} (h : y ∈ l.set n x) : y ∈ l ∨ y = x := List.mem_or_eq_of_mem_set h
end Go.Proofs.YtkbilciipmijjaaGreat
namespace Go.Proofs.YtkbilciipmijjaaGreat
open Go
set_option linter.unusedVariables false
set_option linter.unusedSimpArgs false
theorem Qlq (c : l1Cur) (h : okC c) : ∃ c' x, Qbp c = some (c', x) ∧ okC c' ∧ i64 x := by
 obtain ⟨c1, x1, e1, k1, m1⟩ := JZ c [(-1), 0, 8, 50, 51, 1000, 9223372036854775807, (-9223372036854775808)] h (by simp)
 refine ⟨c1, x1, by unfold Qbp; rw [e1]; rfl, k1, ?_⟩
 simp only [List.mem_cons, List.not_mem_nil, or_false] at m1
 unfold i64; omega
theorem Qtl (c : l1Cur) (h : okC c) : ∃ c' l, Qcv c = some (c', l) ∧ okC c' ∧ l.length ≤ 100 := by
 have key : ∀ (m : Nat) (c : l1Cur) (l : List Find) (i : Int), okC c → i + (m : Int) = 8 → 0 ≤ i → l.length + m ≤ 100 → ∃ c' l', run Zz (c, l, i) = some (c', l') ∧ okC c' ∧ l'.length ≤ 100 := by
  intro m
  induction m with
  | zero =>
   intro c l i hc hi h0 hl
   obtain ⟨c1, x1, e1, k1, l1, u1⟩ := Qk c 8 hc
   have u1 := u1 (by omega)
   refine ⟨c1, l, ?_, k1, by omega⟩
   rw [Qf]
   simp only [Zz, e1, Option.bind_some, decide_eq_false (show ¬ i ≤ x1 by omega), cond_false]
  | succ m ih =>
   intro c l i hc hi h0 hl
   obtain ⟨c1, x1, e1, k1, l1, u1⟩ := Qk c 8 hc
   obtain ⟨c2, x2, e2, k2⟩ := Qmz c1 (w64 (2 * i)) k1
   rw [Qf]
   simp only [Zz, e1, e2, Option.bind_some, Vc (show l.length + 1 ≤ 2000000 by omega) (show 64 ≤ 1024 by omega), Qa, show w64 (i + 1) = i + 1 from QW (by omega) (by omega)]
   by_cases hd : i ≤ x1
   ·rw [decide_eq_true hd]
    exact ih c2 _ (i + 1) k2 (by omega) (by omega) (by simp; omega)
   ·rw [decide_eq_false hd]
    exact ⟨c1, l, rfl, k1, by omega⟩
 obtain ⟨c', l', r1, r2, r3⟩ := key 7 c [] 1 h (by omega) (by omega) (by simp)
 exact ⟨c', l', by unfold Qcv; rw [r1]; rfl, r2, r3⟩
theorem Qvh (c : l1Cur) (h : okC c) : ∃ c' x, Qc1 c = some (c', x) ∧ okC c' := by
 obtain ⟨c1, x1, e1, k1, _⟩ := Qk c 40 h
 obtain ⟨c2, x2, e2, k2, _⟩ := QmF c1 (w64 (1 + x1)) k1
 obtain ⟨c3, x3, e3, k3, _⟩ := Qk c2 14 k2
 obtain ⟨c4, x4, e4, k4, _⟩ := JZ c3 [0, 999, 1000] k3 (by simp)
 obtain ⟨c5, x5, e5, k5, _⟩ := JZ c3 [0, 8, 9] k3 (by simp)
 obtain ⟨c6, x6, e6, k6, _⟩ := JZ c3 [(-1), 7, 8] k3 (by simp)
 obtain ⟨c7, x7, e7, k7, _⟩ := Qlq c3 k3
 obtain ⟨c8, x8, e8, k8, _⟩ := JZ c3 [(-1), 10000000, 10000001] k3 (by simp)
 unfold Qc1
 simp only [e1, e2, e3, e4, e5, e6, e7, e8, Option.bind_some]
 cases decide (x3 = 0) with
 | true => exact ⟨_, _, rfl, k4⟩
 | false =>
 cases decide (x3 = 1) with
 | true => exact ⟨_, _, rfl, k5⟩
 | false =>
 cases decide (x3 = 2) with
 | true => exact ⟨_, _, rfl, k6⟩
 | false =>
 cases decide (x3 = 3) with
 | true => exact ⟨_, _, rfl, k7⟩
 | false =>
 cases decide (x3 = 4) with
 | true => exact ⟨_, _, rfl, k8⟩
 | false => exact ⟨_, _, rfl, k3⟩
theorem Qt9 (c : l1Cur) (h : okC c) : ∃ c' l, Qc7 c = some (c', l) ∧ okC c' ∧ l.length ≤ 100 := by
 obtain ⟨c1, l, e1, k1, n1⟩ := Qtl c h
 unfold Qc7
 rw [e1]
 simp only [Option.bind_some]
 by_cases h0 : l.length = 0
 ·rw [decide_eq_true (show ln l = 0 by rw [Q0]; omega)]; exact ⟨c1, l, rfl, k1, n1⟩
 ·rw [decide_eq_false (show ¬ ln l = 0 by rw [Q0]; omega)]
  obtain ⟨c2, x2, e2, k2, l2, u2⟩ := Qk c1 (ln l) k1
  obtain ⟨c3, x3, e3, k3, _⟩ := Qk c2 12 k2
  have u2 := u2 (by rw [Q0]; omega)
  rw [Q0] at u2
  have hin : inb l x2 = true := by rw [QaK]; omega
  obtain ⟨c4, x4, e4, k4⟩ := Qvh c3 k3
  obtain ⟨c5, x5, e5, k5, _⟩ := JZ c3 [0, 30, 31] k3 (by simp)
  obtain ⟨c6, x6, e6, k6, _⟩ := Qlq c3 k3
  obtain ⟨c7, x7, e7, k7, _⟩ := JZ c3 [(-1), 999, 1000] k3 (by simp)
  have ls : ∀ (n : Nat) (x : Find), (l.set n x).length ≤ 100 := fun n x => by rw [List.length_set]; exact n1
  simp only [e2, e3, e4, e5, e6, e7, hin, cond_false, Option.bind_some, Qa]
  cases decide (x3 = 0) with
  | true => exact ⟨_, _, rfl, k4, ls _ _⟩
  | false =>
  cases decide (x3 = 1) with
  | true => exact ⟨_, _, rfl, k5, ls _ _⟩
  | false =>
  cases decide (x3 = 2) with
  | true => exact ⟨_, _, rfl, k6, ls _ _⟩
  | false =>
  cases decide (x3 = 3) with
  | true => exact ⟨_, _, rfl, k7, ls _ _⟩
  | false => exact ⟨_, _, rfl, k3, n1⟩
def ck (x : Claim) : Prop := i64 x.Id ∧ i64 x.Who ∧ i64 x.Thing
theorem Qnm {l : List Claim} {a : Claim} {r : List Claim × Bool} (h : XY l a = some r) : ∀ y ∈ r.1, y ∈ l ∨ y = a := by
 unfold XY at h
 obtain ⟨b, _, h⟩ := Option.bind_eq_some_iff.1 h
 obtain ⟨_, h⟩ := Qb0 h
 obtain ⟨_, h⟩ := Qb0 h
 obtain ⟨_, h⟩ := Qb0 h
 obtain ⟨_, h⟩ := Qb0 h
 obtain ⟨_, h⟩ := Qb0 h
 obtain ⟨b2, _, h⟩ := Option.bind_eq_some_iff.1 h
 cases b2 with
 | true =>
  simp only [cond_true] at h
  obtain ⟨_, h⟩ := Qb0 h
  injection h with h; subst h
  exact fun y hy => .inl hy
 | false =>
  simp only [cond_false] at h
  injection h with h; subst h
  intro y hy
  rcases List.mem_append.1 hy with hy | hy
  ·rcases List.mem_append.1 hy with hy | hy
   ·exact .inl (QnY hy)
   ·exact .inr (List.mem_singleton.1 hy)
  ·exact .inl (QnY hy)
theorem Qnf {l : List Claim} {i s : Int} {r : List Claim × Bool} (h : JL l i s = some r) (hl : ∀ y ∈ l, ck y) : ∀ y ∈ r.1, ck y := by
 unfold JL at h
 obtain ⟨_, h⟩ := Qb0 h
 obtain ⟨k, _, h⟩ := Option.bind_eq_some_iff.1 h
 obtain ⟨b, _, h⟩ := Option.bind_eq_some_iff.1 h
 cases b with
 | true =>
  simp only [cond_true] at h
  injection h with h; subst h
  exact hl
 | false =>
  simp only [cond_false] at h
  obtain ⟨hin, h⟩ := Qb0 h
  obtain ⟨b2, _, h⟩ := Option.bind_eq_some_iff.1 h
  cases b2 with
  | true =>
   simp only [cond_true] at h
   obtain ⟨_, h⟩ := Qb0 h
   injection h with h; subst h
   exact hl
  | false =>
   simp only [cond_false] at h
   injection h with h; subst h
   intro y hy
   rcases Qov hy with hy | hy
   ·exact hl y hy
   ·rw [hy]; have hg := hl _ (Qrn hin); exact ⟨hg.1, hg.2.1, hg.2.2⟩
theorem Qq0 (c : l1Cur) (h : okC c) : ∃ c' l, QbG c = some (c', l) ∧ okC c' ∧ l.length ≤ 1048576 ∧ ∀ y ∈ l, ck y := by
 have key : ∀ (m : Nat) (c : l1Cur) (l : List Claim) (i : Int), okC c → i + (m : Int) = 8 → 0 ≤ i → l.length ≤ 1048576 → (∀ y ∈ l, ck y) → ∃ c' l', run J4 (c, l, i) = some (c', l') ∧ okC c' ∧ l'.length ≤ 1048576 ∧ ∀ y ∈ l', ck y := by
  intro m
  induction m with
  | zero =>
   intro c l i hc hi h0 hl hy
   obtain ⟨c1, x1, e1, k1, l1, u1⟩ := Qk c 8 hc
   have u1 := u1 (by omega)
   refine ⟨c1, l, ?_, k1, hl, hy⟩
   rw [Qf]
   simp only [J4, e1, Option.bind_some, decide_eq_false (show ¬ i ≤ x1 by omega), cond_false]
  | succ m ih =>
   intro c l i hc hi h0 hl hy
   obtain ⟨c1, x1, e1, k1, l1, u1⟩ := Qk c 8 hc
   obtain ⟨c2, x2, e2, k2, _⟩ := Qk c1 5 k1
   obtain ⟨c3, x3, e3, k3, _⟩ := Qk c2 3 k2
   obtain ⟨c4, x4, e4, k4, _⟩ := Qk c3 60 k3
   obtain ⟨r5, e5, _, n5, _⟩ := QpD l (⟨w64 (2 * i), w64 (1 + x2), w64 (2 * (w64 (1 + x3))), x4, 0⟩ : Claim) hl
   have m5 := Qnm e5
   obtain ⟨c6, x6, e6, k6, _⟩ := Qk c4 4 k4
   obtain ⟨r7, e7, _, n7⟩ := QoN r5.1 (w64 (2 * i)) x6 n5
   have m7 := Qnf e7 (fun y hy' => by
    rcases m5 y hy' with h | h
    ·exact hy y h
    ·rw [h]; exact ⟨Qnd _, Qnd _, Qnd _⟩)
   rw [Qf]
   simp only [J4, e1, e2, e3, e4, e5, e6, e7, Option.bind_some, show w64 (i + 1) = i + 1 from QW (by omega) (by omega)]
   by_cases hd : i ≤ x1
   ·rw [decide_eq_true hd]
    exact ih c6 r7.1 (i + 1) k6 (by omega) (by omega) (by rw [n7]; exact n5) m7
   ·rw [decide_eq_false hd]
    exact ⟨c1, l, rfl, k1, hl, hy⟩
 obtain ⟨c', l', r1, r2, r3, r4⟩ := key 7 c [] 1 h (by omega) (by omega) (by simp) (by simp)
 exact ⟨c', l', by unfold QbG; rw [r1]; rfl, r2, r3, r4⟩
theorem QpY {x : Int} {l : List Int} (h : x ∈ l) (hl : ∀ y ∈ l, -9223372036854775808 ≤ y ∧ y ≤ 9223372036854775807) : i64 x := hl x h
theorem QtB (c : l1Cur) (h : okC c) : ∃ c' l, Qcp c = some (c', l) ∧ okC c' ∧ l.length ≤ 1048576 ∧ ∀ y ∈ l, ck y := by
 obtain ⟨c1, l, e1, k1, n1, hy⟩ := Qq0 c h
 unfold Qcp
 rw [e1]
 simp only [Option.bind_some]
 by_cases h0 : l.length = 0
 ·rw [decide_eq_true (show ln l = 0 by rw [Q0]; omega)]; exact ⟨c1, l, rfl, k1, n1, hy⟩
 ·rw [decide_eq_false (show ¬ ln l = 0 by rw [Q0]; omega)]
  obtain ⟨c2, x2, e2, k2, l2, u2⟩ := Qk c1 (ln l) k1
  obtain ⟨c3, x3, e3, k3, _⟩ := Qk c2 10 k2
  have u2 := u2 (by rw [Q0]; omega)
  rw [Q0] at u2
  have hin : inb l x2 = true := by rw [QaK]; omega
  have hg := hy _ (Qrn hin)
  obtain ⟨c4, x4, e4, k4, m4⟩ := JZ c3 [0, 2, 999, 1000] k3 (by simp)
  obtain ⟨c5, x5, e5, k5, m5⟩ := Qlq c3 k3
  obtain ⟨c6, x6, e6, k6, m6⟩ := JZ c3 [(-1), 100000, 100001] k3 (by simp)
  obtain ⟨c7, x7, e7, k7, m7⟩ := JZ c3 [(-1), 3, 4] k3 (by simp)
  have i4 : i64 x4 := QpY m4 (by decide)
  have ls : ∀ (n : Nat) (x : Claim), (l.set n x).length ≤ 1048576 := fun n x => by rw [List.length_set]; exact n1
  have st : ∀ (n : Nat) (x : Claim), ck x → ∀ y ∈ l.set n x, ck y := fun n x hx y hy' => by
   rcases Qov hy' with h | h
   ·exact hy y h
   ·rw [h]; exact hx
  simp only [e2, e3, e4, e5, e6, e7, hin, cond_false, Option.bind_some, Qa]
  cases decide (x3 = 0) with
  | true => exact ⟨_, _, rfl, k4, ls _ _, st _ _ ⟨i4, hg.2.1, hg.2.2⟩⟩
  | false =>
  cases decide (x3 = 1) with
  | true => exact ⟨_, _, rfl, k5, ls _ _, st _ _ ⟨hg.1, m5, hg.2.2⟩⟩
  | false =>
  cases decide (x3 = 2) with
  | true => exact ⟨_, _, rfl, k6, ls _ _, st _ _ ⟨hg.1, hg.2.1, hg.2.2⟩⟩
  | false =>
  cases decide (x3 = 3) with
  | true => exact ⟨_, _, rfl, k7, ls _ _, st _ _ ⟨hg.1, hg.2.1, hg.2.2⟩⟩
  | false => exact ⟨_, _, rfl, k3, n1, hy⟩
end Go.Proofs.YtkbilciipmijjaaGreat
namespace Go.Proofs.YtkbilciipmijjaaGreat
open Go
set_option linter.unusedVariables false
set_option linter.unusedSimpArgs false
theorem Qn2 (c : l1Cur) (h : okC c) : ∃ c' a, Qa8 c = some (c', a) ∧ okC c' ∧ Qg a := by
 obtain ⟨c1, x1, e1, k1, _⟩ := Qk c 3 h
 obtain ⟨c2, l, e2, k2, n2⟩ := Qog c1 k1
 obtain ⟨r, r1, _, r3⟩ := QwS (w64 (1 + x1)) l (by omega)
 exact ⟨c2, r.1, by unfold Qa8; simp only [e1, e2, r1, Option.bind_some], k2, r3⟩
theorem Qha (c : l1Cur) (i : Int) (h : okC c) : ∃ c' x, ZW c i = some (c', x) ∧ okC c' ∧ ZC x := by
 obtain ⟨c1, x1, e1, k1⟩ := Qmz c i h
 obtain ⟨c2, x2, e2, k2, _⟩ := Qk c1 12 k1
 obtain ⟨c3, x3, e3, k3, _⟩ := JZ c2 [0, 900, 5000, 5001, 60000] k2 (by simp)
 obtain ⟨c4, x4, e4, k4, _⟩ := Qk c3 3 k3
 obtain ⟨c5, x5, e5, k5, _⟩ := Qk c4 3 k4
 exact ⟨c5, _, by unfold ZW; simp only [e1, e2, e3, e4, e5, Option.bind_some]; rfl, k5, by simp [ZC]⟩
theorem Qtq (c : l1Cur) (h : okC c) : ∃ c' l, Qcm c = some (c', l) ∧ okC c' ∧ l.length ≤ 100 := by
 have key : ∀ (m : Nat) (c : l1Cur) (l : List Bid) (i : Int), okC c → i + (m : Int) = 7 → 0 ≤ i → l.length + m ≤ 100 → ∃ c' l', run ZN (c, l, i) = some (c', l') ∧ okC c' ∧ l'.length ≤ 100 := by
  intro m
  induction m with
  | zero =>
   intro c l i hc hi h0 hl
   obtain ⟨c1, x1, e1, k1, l1, u1⟩ := Qk c 7 hc
   have u1 := u1 (by omega)
   refine ⟨c1, l, ?_, k1, by omega⟩
   rw [Qf]
   simp only [ZN, e1, Option.bind_some, decide_eq_false (show ¬ i ≤ x1 by omega), cond_false]
  | succ m ih =>
   intro c l i hc hi h0 hl
   obtain ⟨c1, x1, e1, k1, l1, u1⟩ := Qk c 7 hc
   obtain ⟨c2, x2, e2, k2, _⟩ := Qk c1 12 k1
   obtain ⟨s, hs⟩ := Qmt [7, i, w64 (1 + x2)] (by simp)
   have hsb : QbW 7 i (w64 (1 + x2)) = some s := by unfold QbW; rw [hs]; rfl
   rw [Qf]
   simp only [ZN, e1, e2, hsb, Option.bind_some, Vc (show l.length + 1 ≤ 2000000 by omega) (show 24 ≤ 1024 by omega), Qa, show w64 (i + 1) = i + 1 from QW (by omega) (by omega)]
   by_cases hd : i ≤ x1
   ·rw [decide_eq_true hd]
    exact ih c2 _ (i + 1) k2 (by omega) (by omega) (by simp; omega)
   ·rw [decide_eq_false hd]
    exact ⟨c1, l, rfl, k1, by omega⟩
 obtain ⟨c1, l, r1, k1, n1⟩ := key 6 c [] 1 h (by omega) (by omega) (by simp)
 unfold Qcm
 rw [r1]
 simp only [Option.bind_some]
 by_cases h0 : 0 < ln l
 ·rw [decide_eq_true h0]
  obtain ⟨c2, x2, e2, k2, l2, u2⟩ := Qk c1 (ln l) k1
  have u2 := u2 h0
  rw [Q0] at u2
  have hin : inb l x2 = true := by rw [QaK]; omega
  obtain ⟨c3, x3, e3, k3, _⟩ := Qk c2 10 k2
  obtain ⟨c4, x4, e4, k4, _⟩ := JZ c3 [0, 1, 999, 1000] k3 (by simp)
  obtain ⟨c5, x5, e5, k5, _⟩ := JZ c3 [0, 10000000, 10000001] k3 (by simp)
  simp only [e2, e3, e4, e5, hin, Option.bind_some, cond_true, Qa]
  cases decide (x3 = 0) with
  | true => exact ⟨_, _, rfl, k4, by rw [List.length_set]; exact n1⟩
  | false =>
  cases decide (x3 = 1) with
  | true => exact ⟨_, _, rfl, k5, by rw [List.length_set]; exact n1⟩
  | false => exact ⟨_, _, rfl, k3, n1⟩
 ·rw [decide_eq_false h0]
  exact ⟨c1, l, rfl, k1, n1⟩
theorem Qtm (c : l1Cur) (h : okC c) : ∃ c' x, Qcn c = some (c', x) ∧ okC c' ∧ ZC x := by
 obtain ⟨c1, x1, e1, k1, _⟩ := JZ c [1, 2, 2, 3, 3, 3, 3, 4, 4, 5, 6, 7] h (by simp)
 obtain ⟨c2, x2, e2, k2, _⟩ := Qk c1 4 k1
 obtain ⟨c3, x3, e3, k3, _⟩ := Qk c2 5 k2
 obtain ⟨c4, x4, e4, k4, _⟩ := Qk c3 3 k3
 obtain ⟨c5, x5, e5, k5, _⟩ := Qk c4 6 k4
 obtain ⟨c6, x6, e6, k6, s6⟩ := Qha c5 (w64 (2 * (w64 (1 + x5)))) k5
 obtain ⟨c7, x7, e7, k7, _⟩ := Qk c4 3 k4
 obtain ⟨c8, x8, e8, k8, n8⟩ := Qtq c4 k4
 obtain ⟨c9, x9, e9, k9, _⟩ := JZ c4 [1, 24, 2160, 4320] k4 (by simp)
 unfold Qcn
 simp only [e1, e2, e3, e4, e5, e6, e7, e8, e9, Option.bind_some]
 cases decide (x1 = 1) with
 | true => exact ⟨_, _, rfl, k6, s6⟩
 | false =>
 cases decide (x1 = 3) with
 | true => exact ⟨_, _, rfl, k7, by simp [ZC]⟩
 | false =>
 cases decide (x1 = 5) with
 | true => exact ⟨_, _, rfl, k8, by simp [ZC]; omega⟩
 | false =>
 cases decide (x1 = 7) with
 | true => exact ⟨_, _, rfl, k9, by simp [ZC]⟩
 | false => exact ⟨_, _, rfl, k4, by simp [ZC]⟩
theorem QqF (c : l1Cur) (n : Int) (h : okC c) (hn : n ≤ 1000) : ∃ c' l, QbE c n = some (c', l) ∧ okC c' ∧ l.length ≤ 2000 ∧ ∀ x ∈ l, ZC x := by
 have key : ∀ (m : Nat) (c : l1Cur) (l : List Event), okC c → l.length + m ≤ 2000 → (∀ x ∈ l, ZC x) → ∃ c' l', run Zb (c, l, (m : Int)) = some (c', l') ∧ okC c' ∧ l'.length ≤ 2000 ∧ ∀ x ∈ l', ZC x := by
  intro m
  induction m with
  | zero =>
   intro c l hc hl hx
   exact ⟨c, l, by rw [Qf]; simp only [Zb, show decide ((0 : Int) < ((0 : Nat) : Int)) = false from rfl, cond_false, Option.bind_some], hc, by omega, hx⟩
  | succ m ih =>
   intro c l hc hl hx
   obtain ⟨c1, x1, e1, k1, s1⟩ := Qtm c hc
   obtain ⟨c', l', r1, r2, r3, r4⟩ := ih c1 (l ++ [x1]) k1 (by simp; omega) (fun x hx' => by
    rcases List.mem_append.1 hx' with hx' | hx'
    ·exact hx x hx'
    ·rw [List.mem_singleton.1 hx']; exact s1)
   refine ⟨c', l', ?_, r2, r3, r4⟩
   rw [Qf]
   simp only [Zb, decide_eq_true (show (0 : Int) < ((m + 1 : Nat) : Int) by omega), e1, cond_true, Option.bind_some, Vc (show l.length + 1 ≤ 2000000 by omega) (show 144 ≤ 1024 by omega), Qa, show w64 (((m + 1 : Nat) : Int) - 1) = (m : Int) from by rw [QW] <;> omega]
   exact r1
 obtain ⟨c1, x1, e1, k1, s1⟩ := Qha c 2 h
 obtain ⟨c2, x2, e2, k2, s2⟩ := Qha c1 4 k1
 obtain ⟨c3, x3, e3, k3, l3, u3⟩ := Qk c2 n k2
 have hx3 : x3 < 1000 := by
  by_cases h0 : 0 < n
  ·have := u3 h0; omega
  ·unfold Qe at e3
   rw [decide_eq_true (show n ≤ 0 by omega)] at e3
   injection e3 with e3; injection e3 with _ e3
   omega
 obtain ⟨k, rfl⟩ : ∃ k : Nat, x3 = (k : Int) := ⟨x3.toNat, by omega⟩
 obtain ⟨c', l', r1, r2, r3, r4⟩ := key k c3 [x1, x2, (⟨7, ⟨⟨0, 0, 0, 0, 0⟩, 0, 0, 0⟩, [], 0, 0, 5, []⟩ : Event)] k3 (by simp; omega) (by
  intro x hx
  simp only [List.mem_cons, List.not_mem_nil, or_false] at hx
  rcases hx with rfl | rfl | rfl
  ·exact s1
  ·exact s2
  ·simp [ZC])
 exact ⟨c', l', by unfold QbE; simp only [e1, e2, e3, Option.bind_some]; rw [r1]; rfl, r2, r3, r4⟩
theorem QyB (h : House) (l : List Event) (hm : Qg h) (hl : l.length ≤ 1048576) (he : ∀ e ∈ l, ZC e) : ∃ r, QaB h l = some r ∧ Qg r := by
 have key : ∀ (m i : Nat) (x : House), i + m = l.length → Qg x → ∃ r, run (VS l) (x, (i : Int)) = some r ∧ Qg r := by
  intro m
  induction m with
  | zero =>
   intro i x hi hx
   have : i = l.length := by omega
   subst this
   exact ⟨x, by rw [Qf]; simp only [VS, Qx (Nat.le_refl _), cond_false, Option.bind_some], hx⟩
  | succ m ih =>
   intro i x hi hx
   have hlt : i < l.length := by omega
   obtain ⟨y, y1, _, y3⟩ := QqR x l[i] hx (he _ (List.getElem_mem hlt))
   obtain ⟨r, r1, r3⟩ := ih (i + 1) y.1 (by omega) y3
   refine ⟨r, ?_, r3⟩
   rw [Qf]
   simp only [VS, Qo hlt, Qd hlt, Qn hlt, cond_true, Qa, y1, Option.bind_some, QD (show (i : Int) < 9223372036854775807 by omega)]
   exact r1
 obtain ⟨r, r1, r3⟩ := key l.length 0 h (by omega) hm
 refine ⟨r, ?_, r3⟩
 unfold QaB
 rw [Qao h hm]
 show (run (VS l) (h, 0)).bind _ = _
 rw [show run (VS l) (h, 0) = some r from r1]; rfl
theorem Qp7 (c : l1Cur) (h : okC c) : ∃ c' a, QbJ c = some (c', a) ∧ okC c' ∧ Qg a := by
 obtain ⟨c1, a1, e1, k1, s1⟩ := Qn2 c h
 obtain ⟨c2, l, e2, k2, n2, hx⟩ := QqF c1 12 k1 (by omega)
 obtain ⟨a, e3, s3⟩ := QyB a1 l s1 (by omega) hx
 obtain ⟨c4, x4, e4, k4, _⟩ := Qk c2 10 k2
 obtain ⟨c5, x5, e5, k5, _⟩ := Qk c4 3 k4
 obtain ⟨m1, m2, m3, m4, m5, m6, m7⟩ := s3
 obtain ⟨r6, e6, _, q6⟩ := Qnz a.Chain (⟨2, w64 (3 + x5), 9, a.Now, 0⟩ : Hand) m6
 obtain ⟨r7, e7, _, q7, _⟩ := QsL a.Slots 2 m3
 obtain ⟨r8, e8, _, q8⟩ := Qk8 a.Book (⟨0, 3, 99999, a.Now⟩ : Entry) m7
 unfold QbJ
 simp only [e1, e2, e3, e4, e5, e6, e7, e8, Option.bind_some]
 cases decide (x4 = 0) with
 | true => exact ⟨_, _, rfl, k4, m1, m2, m3, m4, m5, m6, m7⟩
 | false =>
 cases decide (x4 = 1) with
 | true => exact ⟨_, _, rfl, k4, m1, m2, by simp, m4, m5, m6, m7⟩
 | false =>
 cases decide (x4 = 2) with
 | true => exact ⟨_, _, rfl, k5, m1, m2, by simp only; omega, m4, m5, q6, m7⟩
 | false =>
 cases decide (x4 = 3) with
 | true => exact ⟨_, _, rfl, k4, m1, m2, m3, m4, m5, m6, q8⟩
 | false => exact ⟨_, _, rfl, k4, m1, m2, m3, m4, m5, m6, m7⟩
end Go.Proofs.YtkbilciipmijjaaGreat
namespace Go.Proofs.YtkbilciipmijjaaGreat
open Go
set_option linter.unusedVariables false
set_option linter.unusedSimpArgs false
theorem Qhc {A : Type} (l : List A) (p : A → Bool) (hl : l.length ≤ 1048576) {step : Int × Int → Option ((Int × Int) ⊕ Int)}
  (h1 : ∀ (n : Int) (i : Nat) (hi : i < l.length), step (n, (i : Int)) = (bif p l[i] then some (.inl (w64 (n + 1), ((i + 1 : Nat) : Int))) else some (.inl (n, ((i + 1 : Nat) : Int))))) (h2 : ∀ n, step (n, (l.length : Int)) = some (.inr n)) :
  run step (0, 0) = some ((l.filter p).length : Int) := by
 have := Zn (step := step) (fun i => (((l.take i).filter p).length, (i : Int))) (r := ((l.filter p).length : Int)) l.length (fun i hi => by
  have hc := List.length_filter_le p (l.take i)
  have hlen := List.length_take_le i l
  rw [h1 _ i hi, List.take_succ_eq_append_getElem hi, List.filter_append]
  cases hp : p l[i] with
  | true => rw [QW (by omega) (by omega)]; simp [hp]
  | false => simp [hp]) (by rw [h2, List.take_length])
 simpa using this
def kn (l : List Find) (k : Int) : Nat := (l.filter fun x => decide (x.Thing.Kind = k)).length
theorem QqI (l : List Find) (k : Int) (hl : l.length ≤ 1048576) : Qay l k = some (kn l k : Int) := by
 unfold Qay
 rw [Qhc l (fun x => decide (x.Thing.Kind = k)) hl (fun n i hi => by simp only [Zh, Qo hi, Qd hi, Qn hi, cond_true, Qa, QD (show (i : Int) < 9223372036854775807 by omega)]) (fun n => by simp only [Zh, Qx (Nat.le_refl _), cond_false])]
 rfl
theorem Qv1 : ∀ (l : List Find), (∀ x ∈ l, 1 ≤ x.Thing.Kind ∧ x.Thing.Kind ≤ 8) → kn l 1 + kn l 2 + kn l 3 + kn l 4 + kn l 5 + kn l 6 + kn l 7 + kn l 8 = l.length
 | [], _ => rfl
 | x :: l, h => by
  have ih := Qv1 l fun y hy => h y (by simp [hy])
  have hx := h x (by simp)
  have step : ∀ k : Int, kn (x :: l) k = (if x.Thing.Kind = k then 1 else 0) + kn l k := fun k => by
   unfold kn
   rw [List.filter_cons]
   by_cases hk : x.Thing.Kind = k
   ·simp [hk]; omega
   ·simp [hk]
  have : x.Thing.Kind = 1 ∨ x.Thing.Kind = 2 ∨ x.Thing.Kind = 3 ∨ x.Thing.Kind = 4 ∨ x.Thing.Kind = 5 ∨ x.Thing.Kind = 6 ∨ x.Thing.Kind = 7 ∨ x.Thing.Kind = 8 := by omega
  rw [step 1, step 2, step 3, step 4, step 5, step 6, step 7, step 8, List.length_cons, ← ih]
  rcases this with h | h | h | h | h | h | h | h <;> rw [h] <;> simp <;> omega
theorem Qud (c : List Int) (l : List Find) (hl : l.length ≤ 1048576) : run (V7 c l) (0, 1) = some ((kn l 1 + kn l 2 + kn l 3 + kn l 4 + kn l 5 + kn l 6 + kn l 7 + kn l 8 : Nat) : Int) := by
 have hk : ∀ k, kn l k ≤ 1048576 := fun k => Nat.le_trans (List.length_filter_le _ _) hl
 have st : ∀ (n : Nat) (k k' : Int), k' = k + 1 → n ≤ 100000000 → 1 ≤ k → k ≤ 8 → V7 c l ((n : Int), k) = some (.inl (((n + kn l k : Nat) : Int), k')) := fun n k k' e hn h1 h8 => by
  have := hk k
  subst e
  simp only [V7, decide_eq_true h8, QqI l k hl, cond_true, Option.bind_some]
  rw [QW (by omega) (by omega), QW (by omega) (by omega)]; simp
 have k1 := hk 1; have k2 := hk 2; have k3 := hk 3; have k4 := hk 4; have k5 := hk 5; have k6 := hk 6; have k7 := hk 7; have k8 := hk 8
 rw [Qf, show ((0 : Int), (1 : Int)) = (((0 : Nat) : Int), 1) from rfl, st 0 1 2 rfl (by omega) (by omega) (by omega)]
 simp only [Option.bind_some]
 rw [Qf, st _ 2 3 rfl (by omega) (by omega) (by omega)]; simp only [Option.bind_some]
 rw [Qf, st _ 3 4 rfl (by omega) (by omega) (by omega)]; simp only [Option.bind_some]
 rw [Qf, st _ 4 5 rfl (by omega) (by omega) (by omega)]; simp only [Option.bind_some]
 rw [Qf, st _ 5 6 rfl (by omega) (by omega) (by omega)]; simp only [Option.bind_some]
 rw [Qf, st _ 6 7 rfl (by omega) (by omega) (by omega)]; simp only [Option.bind_some]
 rw [Qf, st _ 7 8 rfl (by omega) (by omega) (by omega)]; simp only [Option.bind_some]
 rw [Qf, st _ 8 9 rfl (by omega) (by omega) (by omega)]; simp only [Option.bind_some]
 rw [Qf]
 simp only [V7, show decide ((9 : Int) ≤ 8) = false from rfl, cond_false, Option.bind_some]
 congr 2; omega
def cp (l : List Find) (p : Int) : Nat := (l.filter fun x => decide (x.Place = p)).length
theorem Qlk (l : List Find) (p : Int) (hl : l.length ≤ 1048576) : ∃ r, Z0 l p = some r ∧ ln r = (cp l p : Int) := by
 have hr := QqA l (fun x => decide (x.Place = p)) (fun x => x.Thing.Id) (step := Zc p l (ln l)) (fun i out hi ho => by
   simp only [Zc, Qo hi, Qd hi, Qn hi, QD (show (i : Int) < 9223372036854775807 by omega), Vc (show out.length + 1 ≤ 2000000 by omega) (show 8 ≤ 1024 by omega), cond_true, Qa]
   cases decide (l[i].Place = p) <;> rfl)
  (fun out => by simp only [Zc, Qx (Nat.le_refl _), cond_false])
 exact ⟨_, by unfold Z0; rw [hr]; rfl, by rw [Q0, List.length_map]; rfl⟩
def Qt6 (l : List Find) (b : Int) : Prop := (b = 0 ∧ ∀ q : Int, 1 ≤ q → q ≤ 30 → cp l q = 0) ∨ (1 ≤ b ∧ 1 ≤ cp l b ∧ ∀ q : Int, 1 ≤ q → q ≤ 30 → cp l q ≤ cp l b)
theorem QuA (l : List Find) (hl : l.length ≤ 1048576) : ∃ b, run (VC l) (0, 0, 1) = some b ∧ Qt6 l b := by
 have key : ∀ (d : Nat) (b : Int) (m : Nat) (p : Int), p + (d : Int) = 31 → 1 ≤ p → ((b = 0 ∧ m = 0) ∨ (1 ≤ b ∧ 1 ≤ m ∧ m = cp l b)) → (∀ q : Int, 1 ≤ q → q < p → cp l q ≤ m) → ∃ r, run (VC l) (b, (m : Int), p) = some r ∧ Qt6 l r := by
  intro d
  induction d with
  | zero =>
   intro b m p hp h1 hb hq
   refine ⟨b, by rw [Qf]; simp only [VC, decide_eq_false (show ¬ p ≤ 30 by omega), cond_false, Option.bind_some], ?_⟩
   rcases hb with ⟨hb, hm⟩ | ⟨hb, hm, e⟩
   ·exact .inl ⟨hb, fun q q1 q2 => by have := hq q q1 (by omega); omega⟩
   ·exact .inr ⟨hb, by omega, fun q q1 q2 => by have := hq q q1 (by omega); omega⟩
  | succ d ih =>
   intro b m p hp h1 hb hq
   obtain ⟨r, r1, r2⟩ := Qlk l p hl
   rw [Qf]
   simp only [VC, decide_eq_true (show p ≤ 30 by omega), r1, r2, cond_true, Option.bind_some, show w64 (p + 1) = p + 1 from QW (by omega) (by omega)]
   by_cases hm : m < cp l p
   ·rw [decide_eq_true (show (m : Int) < (cp l p : Int) by omega)]
    exact ih p (cp l p) (p + 1) (by omega) (by omega) (.inr ⟨h1, by omega, rfl⟩) (fun q q1 q2 => by
     by_cases hqp : q = p
     ·rw [hqp]; exact Nat.le_refl _
     ·have := hq q q1 (by omega); omega)
   ·rw [decide_eq_false (show ¬ (m : Int) < (cp l p : Int) by omega)]
    exact ih b m (p + 1) (by omega) (by omega) hb (fun q q1 q2 => by
     by_cases hqp : q = p
     ·rw [hqp]; omega
     ·exact hq q q1 (by omega))
 exact key 30 0 0 1 (by omega) (by omega) (.inl ⟨rfl, rfl⟩) (fun q q1 q2 => by omega)
theorem Qp6 (c : List Int) (l : List Find) (b : Int) (hl : l.length ≤ 1048576) (hb : Qt6 l b) : run (QY c l b) 1 = some (.brk ()) := by
 rcases hb with ⟨hb, _⟩ | ⟨hb, _, hq⟩
 ·rw [Qf]
  simp only [QY, hb, show decide ((0 : Int) < 0) = false from rfl, Bool.and_false, cond_false, Option.bind_some]
 ·obtain ⟨rb, b1, b2⟩ := Qlk l b hl
  have key : ∀ (d : Nat) (p : Int), p + (d : Int) = 31 → 1 ≤ p → run (QY c l b) p = some (.brk ()) := by
   intro d
   induction d with
   | zero => intro p hp h1; rw [Qf]; simp only [QY, decide_eq_false (show ¬ p ≤ 30 by omega), Bool.false_and, cond_false, Option.bind_some]
   | succ d ih =>
    intro p hp h1
    obtain ⟨r, r1, r2⟩ := Qlk l p hl
    have := hq p h1 (by omega)
    rw [Qf]
    simp only [QY, decide_eq_true (show p ≤ 30 by omega), decide_eq_true (show 0 < b by omega), Bool.and_self, r1, r2, b1, b2, decide_eq_false (show ¬ (cp l b : Int) < (cp l p : Int) by omega), cond_true, cond_false, Option.bind_some, show w64 (p + 1) = p + 1 from QW (by omega) (by omega)]
    exact ih (p + 1) (by omega) (by omega)
  exact key 30 1 (by omega) (by omega)
theorem Qep {n : Nat} {step : Int → Option (Int ⊕ (Fl Bool Unit))} (hs : ∀ i, i < n → ∀ o, step (i : Int) = some o → o = .inr (.ret false) ∨ o = .inl ((i + 1 : Nat) : Int)) (hn : step (n : Int) = some (.inr (.brk ()))) {X : Bool}
  (h : (run step 0).bind (evO (fun r => some r) fun _ => some X) = some true) : ∀ i, i < n → step (i : Int) = some (.inl ((i + 1 : Nat) : Int)) := by
 obtain ⟨o, ho, h⟩ := Option.bind_eq_some_iff.1 h
 have key : ∀ (m i : Nat), i + m = n → run step (i : Int) = some o → ∀ j, i ≤ j → j < n → step (j : Int) = some (.inl ((j + 1 : Nat) : Int)) := by
  intro m
  induction m with
  | zero => intro i hi _ j h1 h2; omega
  | succ m ih =>
   intro i hi hr j h1 h2
   rw [Qf] at hr
   cases hst : step (i : Int) with
   | none => rw [hst] at hr; cases hr
   | some q =>
    rcases hs i (by omega) q hst with e | e
    ·rw [hst, e] at hr
     injection hr with hr
     subst hr
     cases h
    ·rw [hst, e] at hr
     by_cases hj : j = i
     ·subst hj; rw [hst, e]
     ·exact ih (i + 1) (by omega) hr j (by omega) h2
 exact fun i hi => key n 0 (by omega) ho i (Nat.zero_le _) hi
theorem QuB (l : List Find) (hl : l.length ≤ 1048576) (h : VV l = some true) : ∀ x ∈ l, (1 ≤ x.Thing.Kind ∧ x.Thing.Kind ≤ 8) ∧ 1 ≤ x.Place ∧ x.Place ≤ 30 := by
 have hst := Qep (n := l.length) (step := Qv l) (fun i hi o ho => by
  simp only [Qv, Qo hi, Qd hi, cond_true, Qa] at ho
  obtain ⟨b, _, ho⟩ := Option.bind_eq_some_iff.1 ho
  cases b with
  | true => injection ho with ho; exact .inl ho.symm
  | false => injection ho with ho; rw [QD (by omega)] at ho; exact .inr ho.symm) (by simp only [Qv, Qx (Nat.le_refl _), cond_false]) (X := decide (ln l ≤ 20)) h
 intro x hx
 obtain ⟨i, hi, rfl⟩ := List.getElem_of_mem hx
 have h1 := hst i hi
 simp only [Qv, Qo hi, Qd hi, Qn hi, cond_true, Qa, Xd, V3, Qc, Option.bind_some] at h1
 by_cases hk : (decide (1 ≤ l[i].Thing.Kind) && decide (l[i].Thing.Kind ≤ 8)) = true
 ·by_cases hp : (decide (1 ≤ l[i].Place) && decide (l[i].Place ≤ 30)) = true
  ·simp only [Bool.and_eq_true, decide_eq_true_eq] at hk hp
   exact ⟨hk, hp⟩
  ·exfalso
   rw [Bool.not_eq_true] at hp
   rw [hp] at h1
   revert h1
   cases (decide (1 ≤ l[i].Thing.Id) && decide (l[i].Thing.Id ≤ 999)) <;> cases (decide (1 ≤ l[i].Thing.Kind) && decide (l[i].Thing.Kind ≤ 8)) <;> cases (decide (0 ≤ l[i].Thing.Colour) && decide (l[i].Thing.Colour ≤ 7)) <;> cases (decide (1 ≤ l[i].Thing.Size) && decide (l[i].Thing.Size ≤ 50)) <;> cases (decide (0 ≤ l[i].Thing.Worth) && decide (l[i].Thing.Worth ≤ 10000000)) <;> simp
 ·exfalso
  rw [Bool.not_eq_true] at hk
  rw [hk] at h1
  revert h1
  cases (decide (1 ≤ l[i].Thing.Id) && decide (l[i].Thing.Id ≤ 999)) <;> simp
theorem Qr7 (l : List Find) (hl : l.length ≤ 1048576) (h0 : 0 < l.length) : ∃ o, run (Xa l (ln l)) (gt l 0, 0) = some o ∧ o ∈ l ∧ ∀ x ∈ l, o.At ≤ x.At := by
 have key : ∀ (m i : Nat) (o : Find), i + m = l.length → o ∈ l → (∀ x ∈ l.take i, o.At ≤ x.At) → ∃ r, run (Xa l (ln l)) (o, (i : Int)) = some r ∧ r ∈ l ∧ ∀ x ∈ l, r.At ≤ x.At := by
  intro m
  induction m with
  | zero =>
   intro i o hi ho hx
   have : i = l.length := by omega
   subst this
   rw [List.take_length] at hx
   exact ⟨o, by rw [Qf]; simp only [Xa, Qx (Nat.le_refl _), cond_false, Option.bind_some], ho, hx⟩
  | succ m ih =>
   intro i o hi ho hx
   have hlt : i < l.length := by omega
   rw [Qf]
   simp only [Xa, Qo hlt, Qd hlt, Qn hlt, cond_true, Qa, QD (show (i : Int) < 9223372036854775807 by omega)]
   by_cases hc : l[i].At < o.At
   ·rw [decide_eq_true hc]
    refine ih (i + 1) l[i] (by omega) (List.getElem_mem hlt) (fun x hx' => ?_)
    rw [List.take_succ_eq_append_getElem hlt] at hx'
    rcases List.mem_append.1 hx' with h | h
    ·have := hx x h; omega
    ·rw [List.mem_singleton.1 h]; exact Int.le_refl _
   ·rw [decide_eq_false hc]
    refine ih (i + 1) o (by omega) ho (fun x hx' => ?_)
    rw [List.take_succ_eq_append_getElem hlt] at hx'
    rcases List.mem_append.1 hx' with h | h
    ·exact hx x h
    ·rw [List.mem_singleton.1 h]; omega
 have hg : gt l 0 = l[0] := Qn (i := 0) h0
 rw [hg]
 exact key l.length 0 l[0] (by omega) (List.getElem_mem h0) (by simp)
theorem Qzx (l : List Find) (h : ∀ i (h : i < l.length) (h0 : 0 < i), (l[i - 1]'(by omega)).Thing.Id < l[i].Thing.Id) : ∀ i j (hi : i < l.length) (hj : j < l.length), i < j → l[i].Thing.Id < l[j].Thing.Id := by
 intro i j
 induction j with
 | zero => intro hi hj hij; omega
 | succ j ih =>
  intro hi hj hij
  have h1 := h (j + 1) hj (by omega)
  have e : (l[j + 1 - 1]'(by omega)) = l[j] := by congr 1
  rw [e] at h1
  by_cases hc : i = j
  ·subst hc; exact h1
  ·have := ih hi (by omega) (by omega)
   omega
theorem QvS (c : List Int) (l : List Find) (r : Int) (hl : l.length ≤ 1048576) (hr : Xz l = some r) : run (Q7 c l r) 0 = some (.brk ()) := by
 obtain ⟨b, b1, b2, b3⟩ := Qi8 l (by omega)
 by_cases h0 : 0 < l.length
 ·cases b with
  | false => rw [Qf, show (0 : Int) = ((0 : Nat) : Int) from rfl]; simp only [Q7, Qo h0, b2, cond_true, cond_false, Option.bind_some]
  | true =>
   obtain ⟨o, o1, o2, o3⟩ := Qr7 l hl h0
   have er : r = o.Thing.Id := by
    unfold Xz at hr
    rw [decide_eq_false (show ¬ ln l = 0 by rw [Q0]; omega), show inb l 0 = true from Qd (i := 0) h0] at hr
    simp only [cond_false, Qa, o1, Option.bind_some] at hr
    injection hr with hr; exact hr.symm
   obtain ⟨k, hk, ek⟩ := List.getElem_of_mem o2
   have inj := Qzx l (b3 rfl).2.2
   have hf : ∃ j : Nat, ∃ hj : j < l.length, VG l r = some (j : Int) ∧ l[j] = o := by
    rw [(Xg l r hl).2]
    unfold XC
    cases hx : l.findIdx? (fun x => decide (x.Thing.Id = r)) with
    | none =>
     have := List.findIdx?_eq_none_iff.1 hx o o2
     rw [er] at this; simp at this
    | some j =>
     obtain ⟨hj, hp⟩ := Z1 hx
     refine ⟨j, hj, rfl, ?_⟩
     simp only [decide_eq_true_eq] at hp
     have hjk : j = k := by
      rcases Nat.lt_trichotomy j k with h | h | h
      ·have := inj j k hj hk h; rw [ek] at this; omega
      ·exact h
      ·have := inj k j hk hj h; rw [ek] at this; omega
     subst hjk; exact ek
   obtain ⟨j, hj, f1, f2⟩ := hf
   have key : ∀ (m i : Nat), i + m = l.length → run (Q7 c l r) (i : Int) = some (.brk ()) := by
    intro m
    induction m with
    | zero =>
     intro i hi
     have : i = l.length := by omega
     subst this
     rw [Qf]; simp only [Q7, Qx (Nat.le_refl _), cond_false, Option.bind_some]
    | succ m ih =>
     intro i hi
     have hlt : i < l.length := by omega
     have hle := o3 l[i] (List.getElem_mem hlt)
     rw [Qf]
     simp only [Q7, Qo hlt, b2, Qd hlt, Qn hlt, f1, Qd hj, Qn hj, f2, decide_eq_false (show ¬ l[i].At < o.At by omega), cond_true, cond_false, Qa, Option.bind_some, QD (show (i : Int) < 9223372036854775807 by omega)]
     exact ih (i + 1) (by omega)
   exact key l.length 0 (by omega)
 ·rw [Qf, show (0 : Int) = ((0 : Nat) : Int) from rfl]; simp only [Q7, Qx (show l.length ≤ 0 by omega), cond_false, Option.bind_some]
theorem Qn1 (l : List Find) (hl : l.length ≤ 1048576) : ∃ r, Xz l = some r := by
 unfold Xz
 by_cases h0 : 0 < l.length
 ·obtain ⟨o, o1, _⟩ := Qr7 l hl h0
  rw [decide_eq_false (show ¬ ln l = 0 by rw [Q0]; omega), show inb l 0 = true from Qd (i := 0) h0]
  exact ⟨o.Thing.Id, by simp only [cond_false, Qa, o1, Option.bind_some]⟩
 ·rw [decide_eq_true (show ln l = 0 by rw [Q0]; omega)]; exact ⟨0, rfl⟩
theorem QCq (l : List Find) (hl : l.length ≤ 1048576) : ∃ r, X2 l = some r ∧ 0 ≤ r := by
 have key : ∀ (m i : Nat) (a : Int), i + m = l.length → 0 ≤ a → a ≤ (i : Int) * 10000000 → ∃ r, run (Jl l (ln l)) (a, (i : Int)) = some r ∧ 0 ≤ r := by
  intro m
  induction m with
  | zero =>
   intro i a hi h0 h1
   have : i = l.length := by omega
   subst this
   exact ⟨a, by rw [Qf]; simp only [Jl, Qx (Nat.le_refl _), cond_false, Option.bind_some], h0⟩
  | succ m ih =>
   intro i a hi h0 h1
   have hlt : i < l.length := by omega
   rw [Qf]
   simp only [Jl, Qo hlt, Qd hlt, Qn hlt, cond_true, Qa, QD (show (i : Int) < 9223372036854775807 by omega)]
   have hv : ∃ v : Int, (if 0 < (if 10000000 < l[i].Thing.Worth then 10000000 else l[i].Thing.Worth) then (if 10000000 < l[i].Thing.Worth then 10000000 else l[i].Thing.Worth) else 0) = v ∧ 0 ≤ v ∧ v ≤ 10000000 := ⟨_, rfl, by split <;> omega, by split <;> (try split) <;> omega⟩
   obtain ⟨v, ev, v0, v1⟩ := hv
   rw [ev, QW (by omega) (by omega)]
   exact ih (i + 1) (a + v) (by omega) (by omega) (by omega)
 obtain ⟨r, r1, r2⟩ := key l.length 0 0 (by omega) (by omega) (by omega)
 exact ⟨r, by unfold X2; rw [show run (Jl l (ln l)) (0, 0) = some r from r1]; rfl, r2⟩
theorem QIe (l : List Claim) (hl : l.length ≤ 1048576) : ∃ r, VI l = some r ∧ r ≤ ln l := by
 have h := Qhc l (fun x => decide (x.State = 0)) hl (step := XT l (ln l)) (fun n i hi => by simp only [XT, Qo hi, Qd hi, Qn hi, cond_true, Qa, QD (show (i : Int) < 9223372036854775807 by omega)]) (fun n => by simp only [XT, Qx (Nat.le_refl _), cond_false])
 refine ⟨_, by unfold VI; rw [h]; rfl, ?_⟩
 have := List.length_filter_le (fun x : Claim => decide (x.State = 0)) l
 rw [Q0]; omega
end Go.Proofs.YtkbilciipmijjaaGreat
namespace Go.Proofs.YtkbilciipmijjaaGreat
open Go
set_option linter.unusedVariables false
set_option linter.unusedSimpArgs false
theorem Qpi : ∀ (s t : List Int), s.Nodup → (∀ x ∈ s, x ∈ t) → s.length ≤ t.length
 | [], _, _, _ => by simp
 | x :: s, t, hn, hs => by
  obtain ⟨h1, h2⟩ := List.nodup_cons.1 hn
  have hx : x ∈ t := hs x (by simp)
  have := Qpi s (t.erase x) h2 (fun y hy => (List.mem_erase_of_ne (fun h => by subst h; exact h1 hy)).2 (hs y (by simp [hy])))
  rw [List.length_erase_of_mem hx] at this
  have hp : 0 < t.length := List.length_pos_of_mem hx
  simp only [List.length_cons]
  omega
def QiC (l : List Claim) : List Claim := l.filter fun x => decide (x.State = 3)
theorem Qoq (l : List Claim) (hl : l.length ≤ 1048576) (h : QI l = some true) : ((QiC l).map (·.Thing)).Nodup := by
 have hst := Qep (n := l.length) (step := Qz l) (fun i hi o ho => by
  simp only [Qz, Qo hi, Qd hi, Qn hi, cond_true, Qa, Qaq l i hi (by omega)] at ho
  obtain ⟨b, _, ho⟩ := Option.bind_eq_some_iff.1 ho
  cases b with
  | true => injection ho with ho; exact .inl ho.symm
  | false =>
   cases hq : (l.take i).any (QbZ l[i]) with
   | true => rw [hq] at ho; injection ho with ho; exact .inl ho.symm
   | false => rw [hq] at ho; injection ho with ho; rw [QD (by omega)] at ho; exact .inr ho.symm) (by simp only [Qz, Qx (Nat.le_refl _), cond_false]) (X := decide (ln l ≤ 20)) h
 have tw : ∀ i (hi : i < l.length), (l.take i).any (QbZ l[i]) = false := by
  intro i hi
  have h1 := hst i hi
  simp only [Qz, Qo hi, Qd hi, Qn hi, cond_true, Qa, Qaq l i hi (by omega)] at h1
  obtain ⟨b, _, h1⟩ := Option.bind_eq_some_iff.1 h1
  cases b with
  | true => injection h1 with h1; cases h1
  | false =>
   cases hq : (l.take i).any (QbZ l[i]) with
   | true => rw [hq] at h1; injection h1 with h1; cases h1
   | false => rfl
 have pw : l.Pairwise fun x y => ¬ (x.State = 3 ∧ y.State = 3 ∧ x.Thing = y.Thing) := by
  rw [List.pairwise_iff_getElem]
  intro i j hi hj hij ⟨h1, h2, h3⟩
  have := tw j hj
  rw [List.any_eq_false] at this
  have hm : l[i] ∈ l.take j := by
   rw [List.mem_take_iff_getElem]
   exact ⟨i, by omega, rfl⟩
  exact this _ hm (by unfold QbZ; simp [h1, h2, h3])
 unfold QiC List.Nodup
 rw [List.pairwise_map]
 refine (pw.filter _).imp_of_mem ?_
 intro a b ha hb hab he
 have h1 := (List.mem_filter.1 ha).2
 have h2 := (List.mem_filter.1 hb).2
 simp only [decide_eq_true_eq] at h1 h2
 exact hab ⟨h1, h2, he⟩
theorem QnL (h : House) (hm : Qg h) (ht : Xr h = some true) : ∀ x ∈ h.Claims, x.Thing ∈ h.Finds.map (·.Thing.Id) := by
 obtain ⟨m1, m2, m3, m4, m5, m6, m7⟩ := hm
 unfold Xr at ht
 cases hd : (!decide (ln h.Trials = ln h.Claims)) with
 | true => rw [hd] at ht; cases ht
 | false =>
  rw [hd] at ht
  have hst := Qep (n := h.Claims.length) (step := Vo h) (fun i hi o ho => by
   simp only [Vo, Qo hi, Qd hi, cond_true, Qa] at ho
   cases hq : inb [0, 1, 2, 1] (gt h.Claims (i : Int)).State with
   | false => rw [hq] at ho; cases ho
   | true =>
    rw [hq] at ho
    simp only [Qa] at ho
    obtain ⟨b, _, ho⟩ := Option.bind_eq_some_iff.1 ho
    cases b with
    | true => injection ho with ho; exact .inl ho.symm
    | false => injection ho with ho; rw [QD (by omega)] at ho; exact .inr ho.symm) (by simp only [Vo, Qx (Nat.le_refl _), cond_false]) (X := true) ht
  intro x hx
  obtain ⟨i, hi, rfl⟩ := List.getElem_of_mem hx
  have h1 := hst i hi
  simp only [Vo, Qo hi, Qd hi, Qn hi, cond_true, Qa, (Xg h.Finds h.Claims[i].Thing m1).1, Option.bind_some] at h1
  cases hq : inb [0, 1, 2, 1] h.Claims[i].State with
  | false => rw [hq] at h1; cases h1
  | true =>
   rw [hq] at h1
   unfold XC at h1
   cases hf : h.Finds.findIdx? (fun x => decide (x.Thing.Id = h.Claims[i].Thing)) with
   | none => rw [hf] at h1; simp only [show decide ((-1 : Int) < 0) = true from rfl, cond_true, Qa, Option.bind_some] at h1; injection h1 with h1; cases h1
   | some j =>
    obtain ⟨hj, hp⟩ := Z1 hf
    simp only [decide_eq_true_eq] at hp
    exact List.mem_map.2 ⟨h.Finds[j], List.getElem_mem hj, hp⟩
theorem QpA (h : House) (ht : Vr h = some true) : QI h.Claims = some true ∧ Xr h = some true := by
 unfold Vr at ht
 obtain ⟨b, hb, ht⟩ := Option.bind_eq_some_iff.1 ht
 cases b with
 | true => cases ht
 | false =>
  simp only [cond_false] at ht
  obtain ⟨b2, _, ht⟩ := Option.bind_eq_some_iff.1 ht
  cases b2 with
  | true => cases ht
  | false =>
   simp only [cond_false] at ht
   obtain ⟨b3, h3, ht⟩ := Option.bind_eq_some_iff.1 ht
   injection ht with ht; subst ht
   obtain ⟨r9, _, h3⟩ := Option.bind_eq_some_iff.1 h3
   cases r9 with
   | false => cases h3
   | true =>
    simp only [cond_true] at h3
    obtain ⟨r10, h10, h3⟩ := Option.bind_eq_some_iff.1 h3
    injection h3 with h3; subst h3
    refine ⟨?_, h10⟩
    obtain ⟨r, _, hb⟩ := Option.bind_eq_some_iff.1 hb
    cases r with
    | false => cases hb
    | true =>
    simp only [Bool.not_true, cond_false] at hb
    obtain ⟨r, _, hb⟩ := Option.bind_eq_some_iff.1 hb
    cases r with
    | false => cases hb
    | true =>
    simp only [Bool.not_true, cond_false] at hb
    obtain ⟨r, _, hb⟩ := Option.bind_eq_some_iff.1 hb
    cases r with
    | false => cases hb
    | true =>
    simp only [Bool.not_true, cond_false] at hb
    obtain ⟨r, _, hb⟩ := Option.bind_eq_some_iff.1 hb
    cases r with
    | false => cases hb
    | true =>
    simp only [Bool.not_true, cond_false] at hb
    obtain ⟨r, hr, hb⟩ := Option.bind_eq_some_iff.1 hb
    cases r with
    | false => cases hb
    | true => exact hr
theorem Qtu (h : House) (hm : Qg h) (ht : Vr h = some true) : (QiC h.Claims).length ≤ h.Finds.length := by
 obtain ⟨p1, p2⟩ := QpA h ht
 have h1 := Qpi ((QiC h.Claims).map (·.Thing)) (h.Finds.map (·.Thing.Id)) (Qoq h.Claims hm.2.2.2.1 p1) (fun x hx => by
  obtain ⟨y, hy, rfl⟩ := List.mem_map.1 hx
  exact QnL h hm p2 y (List.mem_filter.1 hy).1)
 simpa using h1
theorem Qnu (h : House) (hm : Qg h) : ∃ r, JP h = some r ∧ 0 ≤ r ∧ (100 < r → ∃ b, QF h = some b ∧ b = false) := by
 have hs := Qhc h.Claims (fun x => decide (x.State = 3)) hm.2.2.2.1 (step := Xv h h.Claims (ln h.Claims)) (fun n i hi => by simp only [Xv, Qo hi, Qd hi, Qn hi, cond_true, Qa, QD (show (i : Int) < 9223372036854775807 by have := hm.2.2.2.1; omega)]) (fun n => by simp only [Xv, Qx (Nat.le_refl _), cond_false])
 have hc : (QiC h.Claims).length ≤ 1048576 := Nat.le_trans (List.length_filter_le _ _) hm.2.2.2.1
 have hF := hm.1
 obtain ⟨b, b1, b2⟩ := Qnv h hm
 unfold JP
 by_cases h0 : h.Finds.length = 0
 ·rw [decide_eq_true (show ln h.Finds = 0 by rw [Q0]; omega)]
  exact ⟨0, rfl, Int.le_refl _, fun h => by omega⟩
 ·rw [decide_eq_false (show ¬ ln h.Finds = 0 by rw [Q0]; omega)]
  simp only [cond_false, hs, Option.bind_some, Bool.not_false, Qa]
  have hx : ∃ n : Nat, (List.filter (fun x => decide (x.State = 3)) h.Claims).length = n ∧ n = (QiC h.Claims).length := ⟨_, rfl, rfl⟩
  obtain ⟨n, en, es⟩ := hx
  rw [en, Q0]
  have e1 : w64 (100 * (n : Int)) = 100 * (n : Int) := QW (by omega) (by omega)
  have d0 : 0 ≤ (100 * (n : Int)).tdiv (h.Finds.length : Int) := Int.tdiv_nonneg (by omega) (by omega)
  have d1 : (100 * (n : Int)).tdiv (h.Finds.length : Int) ≤ 100 * (n : Int) := Int.tdiv_le_self _ (by omega)
  rw [e1, QW (by omega) (by omega)]
  refine ⟨_, rfl, d0, fun hgt => ⟨b, b2, ?_⟩⟩
  cases b with
  | false => rfl
  | true =>
   exfalso
   have := Qtu h hm b1
   have hle : (100 * (n : Int)).tdiv (h.Finds.length : Int) ≤ 100 := by
    rw [Int.tdiv_eq_ediv_of_nonneg (by omega)]
    exact Int.ediv_le_of_le_mul (by omega) (by omega)
   omega
theorem QlK (c : List Int) (hc : c.length ≤ 1048576) : ∃ a, Xi c = some a ∧ Qg a := by
 obtain ⟨cu, e0, k0⟩ := Qo3 c hc
 obtain ⟨c1, a, e1, k1, s1⟩ := Qp7 cu k0
 have key : ∀ (m i : Nat) (cu : l1Cur) (a : House), i + m = a.Claims.length → okC cu → Qg a → ∃ r, run Vl (cu, a, (i : Int)) = some r ∧ Qg r := by
  intro m
  induction m with
  | zero =>
   intro i cu a hi hk hs
   exact ⟨a, by rw [Qf]; simp only [Vl, Qx (show a.Claims.length ≤ i by omega), cond_false, Option.bind_some], hs⟩
  | succ m ih =>
   intro i cu a hi hk hs
   have hlt : i < a.Claims.length := by omega
   obtain ⟨m1, m2, m3, m4, m5, m6, m7⟩ := hs
   obtain ⟨c2, x2, e2, k2, _⟩ := Qk cu 2 hk
   have eo : Qcs cu 2 = some (c2, decide (x2 = 0)) := by unfold Qcs; rw [e2]; rfl
   rw [Qf]
   simp only [Vl, Qo hlt, eo, Qd hlt, cond_true, Qa, Option.bind_some, QD (show (i : Int) < 9223372036854775807 by omega)]
   cases decide (x2 = 0) with
   | true => exact ih (i + 1) c2 _ (by simp only [List.length_set]; omega) k2 ⟨m1, m2, m3, by simp only [List.length_set]; omega, m5, m6, m7⟩
   | false => exact ih (i + 1) c2 a (by omega) k2 ⟨m1, m2, m3, m4, m5, m6, m7⟩
 obtain ⟨r, r1, r2⟩ := key a.Claims.length 0 c1 a (by omega) k1 s1
 exact ⟨r, by unfold Xi; simp only [e0, e1, Option.bind_some]; rw [show run Vl (c1, a, 0) = some r from r1]; rfl, r2⟩
end Go.Proofs.YtkbilciipmijjaaGreat
