import Derived.Test.YtcdffihcfeajfaaGreatPyProved
namespace Go.Proofs.YtcdffihcfeajfaaGreat
open Go
set_option linter.unusedVariables false
set_option linter.unusedSimpArgs false
theorem Qom (f : Find) : ∃ b, VQ f = some b ∧ (b = true → 1 ≤ f.Thing.Kind ∧ f.Thing.Kind ≤ 8) := by
 unfold VQ Zo Qf
 simp only [Option.bind_some]
 cases h1 : (decide (1 ≤ f.Thing.Id) && decide (f.Thing.Id ≤ 999)) with
 | false => exact ⟨false, rfl, fun h => by cases h⟩
 | true =>
  cases h2 : (decide (1 ≤ f.Thing.Kind) && decide (f.Thing.Kind ≤ 8)) with
  | false => exact ⟨false, rfl, fun h => by cases h⟩
  | true =>
   have hk : 1 ≤ f.Thing.Kind ∧ f.Thing.Kind ≤ 8 := by simpa using h2
   simp only [cond_true]
   cases (decide (0 ≤ f.Thing.Colour) && decide (f.Thing.Colour ≤ 7)) <;> cases (decide (1 ≤ f.Thing.Size) && decide (f.Thing.Size ≤ 50)) <;> cases (decide (0 ≤ f.Thing.Worth) && decide (f.Thing.Worth ≤ 10000000)) <;>
    cases (decide (1 ≤ f.Place) && decide (f.Place ≤ 30)) <;> cases (decide (0 ≤ f.At) && decide (f.At ≤ 100000)) <;> cases (decide (0 ≤ f.Finder) && decide (f.Finder ≤ 999)) <;> exact ⟨_, rfl, fun _ => hk⟩
theorem Qux (k : Int) (h1 : 1 ≤ k) (h2 : k ≤ 8) : ∃ d, Qcm k = some d ∧ Qcn k = some d := by
 have : k = 1 ∨ k = 2 ∨ k = 3 ∨ k = 4 ∨ k = 5 ∨ k = 6 ∨ k = 7 ∨ k = 8 := by omega
 rcases this with rfl | rfl | rfl | rfl | rfl | rfl | rfl | rfl <;> exact ⟨_, rfl, rfl⟩
theorem Qx1 (f : Find) (now : Int) : ∃ b, Qa9 f now = some b ∧ Qca f now = some b := by
 obtain ⟨b, h1, h2⟩ := Qom f
 unfold Qa9 Qca QcN QcV
 rw [show Zi f = VQ f from rfl, h1]
 cases b with
 | false => exact ⟨false, rfl, rfl⟩
 | true =>
  obtain ⟨k1, k2⟩ := h2 rfl
  obtain ⟨d, h3, h4⟩ := Qux f.Thing.Kind k1 k2
  simp only [Option.bind_some, cond_true, cond_false, Bool.not_true, h3, h4]
  exact ⟨_, rfl, rfl⟩
noncomputable def Qyp (f : Find) (now : Int) : Bool := (Qa9 f now).getD false
theorem QM4 (f : Find) (now : Int) : Qa9 f now = some (Qyp f now) ∧ Qca f now = some (Qyp f now) := by
 obtain ⟨b, h1, h2⟩ := Qx1 f now
 unfold Qyp
 rw [h1, h2]
 exact ⟨rfl, rfl⟩
theorem QzT (f : Find) (l : List Claim) (now : Int) (hl : l.length ≤ 1048576) : ∃ c, Qcr f l now = some c ∧ Qcv f l now = some c := by
 obtain ⟨p, p1, p2, _⟩ := QpL l f.Thing.Id hl
 obtain ⟨d, d1, d2⟩ := Qx1 f now
 have hs := Qfw l (fun x => decide (x.Thing = f.Thing.Id) && decide (x.State = 0)) (r := (0 : Int)) (step := Zb l now f)
  (fun i hi => by
   simp only [Zb, Qu hi, Qg hi, Qz hi, QP (show (i : Int) < 9223372036854775807 by omega), cond_true, Qa, Option.bind_some]
   cases (decide (l[i].Thing = f.Thing.Id) && decide (l[i].State = 0)) <;> rfl)
  (by simp only [Zb, Qx (Nat.le_refl _), cond_false])
 have hi := ZN l (fun x => decide (x.Thing = f.Thing.Id) && decide (x.State = 0)) (fun i => (i : Int)) (step := QA l f.Thing (ln l))
  (fun i hi => by
   simp only [QA, Qci, Qu hi, Qg hi, Qz hi, QP (show (i : Int) < 9223372036854775807 by omega), cond_true, Qa, Option.bind_some]
   cases (decide (l[i].Thing = f.Thing.Id) && decide (l[i].State = 0)) <;> rfl)
  (by simp only [QA, Qx (Nat.le_refl _), cond_false])
 have hc : QI l f.Thing = some (l.any (fun x => decide (x.Thing = f.Thing.Id) && decide (x.State = 0))) := by
  unfold QI Va
  rw [hi]
  cases hf : l.findIdx? (fun x => decide (x.Thing = f.Thing.Id) && decide (x.State = 0)) with
  | none =>
   have : l.any (fun x => decide (x.Thing = f.Thing.Id) && decide (x.State = 0)) = false := by
    rw [List.any_eq_false]
    intro x hx
    have := List.findIdx?_eq_none_iff.1 hf x hx
    simpa using this
   rw [this]; rfl
  | some i =>
   obtain ⟨hi', hp⟩ := QcM hf
   rw [List.any_eq_true.2 ⟨_, List.getElem_mem hi', hp⟩]
   simp only [Option.bind_some, evO, decide_eq_true (show (0 : Int) ≤ (i : Int) by omega)]
 unfold Qcr Qcv
 rw [p1, p2, d1, d2, hs, hc]
 simp only [Option.bind_some]
 have hlt : decide (f.Thing.Worth ≤ 5000) = !decide (5000 < f.Thing.Worth) := by
  by_cases h : 5000 < f.Thing.Worth
  ·rw [decide_eq_true h, decide_eq_false (by omega)]; rfl
  ·rw [decide_eq_false h, decide_eq_true (by omega)]; rfl
 rw [hlt]
 generalize l.any (fun x => decide (x.Thing = f.Thing.Id) && decide (x.State = 0)) = q
 cases decide (p = 0) <;> cases q <;> cases d <;> cases (decide (f.Thing.Kind = 7) || decide (f.Thing.Worth = 0)) <;> cases decide (5000 < f.Thing.Worth) <;> cases decide (f.Finder = 0) <;> exact ⟨_, rfl, rfl⟩
end Go.Proofs.YtcdffihcfeajfaaGreat
