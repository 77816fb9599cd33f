/- A thing cleared. The program's answers are the reference's. No condition but the length. -/
import Derived.Test.YtcdffihcfeajfaaGreatPyProved
import Derived.Test.YtcdffihcfeajfaaGreatPyStp
namespace Go.Proofs.YtcdffihcfeajfaaGreat
open Go
set_option linter.unusedVariables false
set_option linter.unusedSimpArgs false
theorem isFind_some (f : Find) : ∃ b, spec_IsFind f = some b ∧ (b = true → 1 ≤ f.Thing.Kind ∧ f.Thing.Kind ≤ 8) := by
  unfold spec_IsFind spec_IsThing spec_l1In
  simp only [Option.bind_some]
  cases h1 : (decide (1 ≤ f.Thing.Id) && decide (f.Thing.Id ≤ 999)) with
  | false => exact ⟨false, rfl, fun h => by cases h⟩
  | true =>
    cases h2 : (decide (1 ≤ f.Thing.Kind) && decide (f.Thing.Kind ≤ 8)) with
    | false => exact ⟨false, rfl, fun h => by cases h⟩
    | true =>
      have hk : 1 ≤ f.Thing.Kind ∧ f.Thing.Kind ≤ 8 := by simpa using h2
      simp only [cond_true]
      cases (decide (0 ≤ f.Thing.Colour) && decide (f.Thing.Colour ≤ 7)) <;> cases (decide (1 ≤ f.Thing.Size) && decide (f.Thing.Size ≤ 50)) <;> cases (decide (0 ≤ f.Thing.Worth) && decide (f.Thing.Worth ≤ 10000000)) <;>
        cases (decide (1 ≤ f.Place) && decide (f.Place ≤ 30)) <;> cases (decide (0 ≤ f.At) && decide (f.At ≤ 100000)) <;> cases (decide (0 ≤ f.Finder) && decide (f.Finder ≤ 999)) <;> exact ⟨_, rfl, fun _ => hk⟩
theorem keepDays (k : Int) (h1 : 1 ≤ k) (h2 : k ≤ 8) : ∃ d, spec_KeepDays k = some d ∧ impl_KeepDays k = some d := by
  have : k = 1 ∨ k = 2 ∨ k = 3 ∨ k = 4 ∨ k = 5 ∨ k = 6 ∨ k = 7 ∨ k = 8 := by omega
  rcases this with rfl | rfl | rfl | rfl | rfl | rfl | rfl | rfl <;> exact ⟨_, rfl, rfl⟩
theorem isDue (f : Find) (now : Int) : ∃ b, spec_IsDue f now = some b ∧ impl_IsDue f now = some b := by
  obtain ⟨b, h1, h2⟩ := isFind_some f
  unfold spec_IsDue impl_IsDue spec_DueHour impl_DueHour
  rw [show impl_IsFind f = spec_IsFind f from rfl, h1]
  cases b with
  | false => exact ⟨false, rfl, rfl⟩
  | true =>
    obtain ⟨k1, k2⟩ := h2 rfl
    obtain ⟨d, h3, h4⟩ := keepDays f.Thing.Kind k1 k2
    simp only [Option.bind_some, cond_true, cond_false, Bool.not_true, h3, h4]
    exact ⟨_, rfl, rfl⟩
noncomputable def dueB (f : Find) (now : Int) : Bool := (spec_IsDue f now).getD false
theorem isDueB (f : Find) (now : Int) : spec_IsDue f now = some (dueB f now) ∧ impl_IsDue f now = some (dueB f now) := by
  obtain ⟨b, h1, h2⟩ := isDue f now
  unfold dueB
  rw [h1, h2]
  exact ⟨rfl, rfl⟩
/-- What becomes of a find. -/
theorem fateOf (f : Find) (l : List Claim) (now : Int) (hl : l.length ≤ 1048576) : ∃ c, spec_FateOf f l now = some c ∧ impl_FateOf f l now = some c := by
  obtain ⟨p, p1, p2, _⟩ := firstProved l f.Thing.Id hl
  obtain ⟨d, d1, d2⟩ := isDue f now
  have hs := run_any l (fun x => decide (x.Thing = f.Thing.Id) && decide (x.State = 0)) (r := (0 : Int)) (step := spec_FateOf_l4 l now f)
    (fun i hi => by
      simp only [spec_FateOf_l4, lt_ln hi, inb_n hi, gt_n hi, w64_n (show (i : Int) < 9223372036854775807 by omega), cond_true, need_true, Option.bind_some]
      cases (decide (l[i].Thing = f.Thing.Id) && decide (l[i].State = 0)) <;> rfl)
    (by simp only [spec_FateOf_l4, ge_ln (Nat.le_refl _), cond_false])
  have hi := run_find l (fun x => decide (x.Thing = f.Thing.Id) && decide (x.State = 0)) (fun i => (i : Int)) (step := slices_IndexFunc_Claim_cimpl_FateOf_1_l2 l f.Thing (ln l))
    (fun i hi => by
      simp only [slices_IndexFunc_Claim_cimpl_FateOf_1_l2, impl_FateOf_1, lt_ln hi, inb_n hi, gt_n hi, w64_n (show (i : Int) < 9223372036854775807 by omega), cond_true, need_true, Option.bind_some]
      cases (decide (l[i].Thing = f.Thing.Id) && decide (l[i].State = 0)) <;> rfl)
    (by simp only [slices_IndexFunc_Claim_cimpl_FateOf_1_l2, ge_ln (Nat.le_refl _), cond_false])
  have hc : slices_ContainsFunc_Claim_cimpl_FateOf_1 l f.Thing = some (l.any (fun x => decide (x.Thing = f.Thing.Id) && decide (x.State = 0))) := by
    unfold slices_ContainsFunc_Claim_cimpl_FateOf_1 slices_IndexFunc_Claim_cimpl_FateOf_1
    rw [hi]
    cases hf : l.findIdx? (fun x => decide (x.Thing = f.Thing.Id) && decide (x.State = 0)) with
    | none =>
      have : l.any (fun x => decide (x.Thing = f.Thing.Id) && decide (x.State = 0)) = false := by
        rw [List.any_eq_false]
        intro x hx
        have := List.findIdx?_eq_none_iff.1 hf x hx
        simpa using this
      rw [this]; rfl
    | some i =>
      obtain ⟨hi', hp⟩ := find_at hf
      rw [List.any_eq_true.2 ⟨_, List.getElem_mem hi', hp⟩]
      simp only [Option.bind_some, evO, decide_eq_true (show (0 : Int) ≤ (i : Int) by omega)]
  unfold spec_FateOf impl_FateOf
  rw [p1, p2, d1, d2, hs, hc]
  simp only [Option.bind_some]
  have hlt : decide (f.Thing.Worth ≤ 5000) = !decide (5000 < f.Thing.Worth) := by
    by_cases h : 5000 < f.Thing.Worth
    · rw [decide_eq_true h, decide_eq_false (by omega)]; rfl
    · rw [decide_eq_false h, decide_eq_true (by omega)]; rfl
  rw [hlt]
  generalize l.any (fun x => decide (x.Thing = f.Thing.Id) && decide (x.State = 0)) = q
  cases decide (p = 0) <;> cases q <;> cases d <;> cases (decide (f.Thing.Kind = 7) || decide (f.Thing.Worth = 0)) <;> cases decide (5000 < f.Thing.Worth) <;> cases decide (f.Finder = 0) <;> exact ⟨_, rfl, rfl⟩
theorem steppedI (h : House) (out : House) (hm : sm_House h) : impl_stepped_i h out [false] = some (h, false) := by
  unfold impl_stepped_i
  simp only [anyFalse [false] (by simp), cloneHouse h hm, Option.bind_some]
  rfl
theorem stepClear (h : House) (t : Int) (hm : sm_House h) : ∃ r, spec_StepClear h t = some r ∧ impl_StepClear h t = some r ∧ sm_House r.1 := by
  have hm7 := hm
  obtain ⟨m1, m2, m3, m4, m5, m6, m7⟩ := hm7
  obtain ⟨w, w1, w2⟩ := slotWith_in h.Slots t m3
  unfold spec_StepClear impl_StepClear impl_findIn
  simp only [(findThing h.Finds t m1).1, (findThing h.Finds t m1).2, (houseB_eq h hm).1, (houseB_eq h hm).2, l33Copy h hm, cloneHouse h hm, w1, w2, Option.bind_some]
  rcases findIx_at h.Finds t with hx | ⟨k, hk, hx⟩
  · rw [hx]
    refine ⟨(h, false), rfl, ?_, hm⟩
    cases houseB h <;> rfl
  · rw [hx, decide_eq_false (show ¬ (k : Int) < 0 by omega)]
    cases hb : houseB h with
    | false => exact ⟨(h, false), rfl, rfl, hm⟩
    | true =>
      obtain ⟨f, f1, f2⟩ := fateOf h.Finds[k] h.Claims h.Now m4
      obtain ⟨a, a1, a2, a3, a4, _⟩ := handed h t 3 (h.Finds[k]).Finder hm
      obtain ⟨b, b1, b2, b3, b4, _⟩ := handed h t 5 0 hm
      simp only [cond_false, Bool.not_true, Option.bind_some, inb_n hk, gt_n hk, need_true, f1, a1, b1, l34Done h _ _ hm a3, l34Done h _ _ hm b3]
      refine ⟨bif decide (f = 2) then stepR h a.1 a.2 else bif decide (f = 4) then stepR h b.1 b.2 else bif decide (f = 5) then stepR h b.1 b.2 else (h, false), ?_, ?_, ?_⟩
      · cases decide (f = 2) <;> cases decide (f = 4) <;> cases decide (f = 5) <;> rfl
      · cases hi : inSlot h.Slots t with
        | false =>
          rw [a4 hi, b4 hi]
          simp only [Bool.not_false, Option.bind_some, cond_true, stepR_false]
          cases decide (f = 2) <;> cases decide (f = 4) <;> cases decide (f = 5) <;> rfl
        | true =>
          simp only [Bool.not_true, Option.bind_some, cond_false, inb_n hk, gt_n hk, need_true, f2, a2, b2, steppedI h h hm, stepped h _ _ hm a3 (show [a.2].length ≤ 1048576 by simp), stepped h _ _ hm b3 (show [b.2].length ≤ 1048576 by simp), List.all_cons, List.all_nil, Bool.and_true, id_eq]
          cases decide (f = 2) <;> cases decide (f = 4) <;> cases decide (f = 5) <;> rfl
      · cases decide (f = 2) <;> cases decide (f = 4) <;> cases decide (f = 5) <;> first | exact stepR_sm _ _ _ hm a3 | exact stepR_sm _ _ _ hm b3 | exact hm
end Go.Proofs.YtcdffihcfeajfaaGreat
