/- Who got what: the program's answers are the reference's. No condition but the length. -/
import Derived.Test.YtlnajgoeoklioaaGreatPyFind
namespace Go.Proofs.YtlnajgoeoklioaaGreat
open Go
set_option linter.unusedVariables false
set_option linter.unusedSimpArgs false
theorem findIx_in {l : List Find} {id : Int} (h : ¬ findIx l id < 0) : ∃ k : Nat, findIx l id = (k : Int) ∧ k < l.length := by
  unfold findIx at h ⊢
  cases hf : l.findIdx? (fun x => decide (x.Thing.Id = id)) with
  | none => rw [hf] at h; simp at h
  | some i => exact ⟨i, rfl, (find_at hf).1⟩
def servedP (x : Hand) (c : Claim) : Bool := decide (c.State = 3) && (decide (c.Thing = x.Thing) && decide (c.Who = x.Who))
theorem l36Claimed (h : House) (x : Hand) (hl : h.Claims.length ≤ 1048576) : spec_l36Claimed h x = some (h.Claims.any (servedP x)) := by
  have hs := run_any h.Claims (servedP x) (r := true) (step := spec_l36Claimed_l2 h x)
    (fun i hi => by
      simp only [spec_l36Claimed_l2, lt_ln hi, inb_n hi, gt_n hi, w64_n (show (i : Int) < 9223372036854775807 by omega), cond_true, need_true, servedP]
      cases decide (h.Claims[i].State = 3) <;> cases decide (h.Claims[i].Thing = x.Thing) <;> cases decide (h.Claims[i].Who = x.Who) <;> rfl)
    (by simp only [spec_l36Claimed_l2, ge_ln (Nat.le_refl _), cond_false])
  unfold spec_l36Claimed
  rw [hs]
  cases h.Claims.any (servedP x) <;> rfl
theorem isServed (h : House) (x : Hand) (hl : h.Claims.length ≤ 1048576) : impl_isServed h x = some (decide (x.Holder = 3) && h.Claims.any (servedP x)) := by
  have hi := run_find h.Claims (servedP x) (fun i => (i : Int)) (step := slices_IndexFunc_Claim_cimpl_isServed_1_l2 h.Claims x (ln h.Claims))
    (fun i hi => by
      simp only [slices_IndexFunc_Claim_cimpl_isServed_1_l2, impl_isServed_1, Option.bind_some, lt_ln hi, inb_n hi, gt_n hi, w64_n (show (i : Int) < 9223372036854775807 by omega), cond_true, need_true, servedP]
      cases decide (h.Claims[i].State = 3) <;> cases decide (h.Claims[i].Thing = x.Thing) <;> cases decide (h.Claims[i].Who = x.Who) <;> rfl)
    (by simp only [slices_IndexFunc_Claim_cimpl_isServed_1_l2, ge_ln (Nat.le_refl _), cond_false])
  have hc : slices_ContainsFunc_Claim_cimpl_isServed_1 h.Claims x = some (h.Claims.any (servedP x)) := by
    unfold slices_ContainsFunc_Claim_cimpl_isServed_1 slices_IndexFunc_Claim_cimpl_isServed_1
    rw [hi]
    cases hf : h.Claims.findIdx? (servedP x) with
    | none =>
      have : h.Claims.any (servedP x) = false := by
        rw [List.any_eq_false]
        intro y hy
        have := List.findIdx?_eq_none_iff.1 hf y hy
        simp [this]
      rw [this]; rfl
    | some i =>
      obtain ⟨hi, hp⟩ := find_at hf
      have : h.Claims.any (servedP x) = true := List.any_eq_true.2 ⟨_, List.getElem_mem hi, hp⟩
      rw [this]
      show some (decide (0 ≤ (i : Int))) = _
      rw [decide_eq_true (by omega)]
  unfold impl_isServed
  rw [hc]
  cases decide (x.Holder = 3) <;> rfl
/-- An owner had proved it, or had found it. -/
def ownerP (h : House) (x : Hand) : Bool := !decide (x.Holder = 3) || (h.Claims.any (servedP x) || (!decide (findIx h.Finds x.Thing < 0) && decide ((gt h.Finds (findIx h.Finds x.Thing)).Finder = x.Who)))
theorem areOwners (h : House) (hm : sm_House h) : ∃ c, spec_AreOwners h = some c ∧ impl_AreOwners h = some c := by
  unfold sm_House at hm
  obtain ⟨m1, m2, m3, m4, m5, m6, m7⟩ := hm
  have hs := run_all h.Chain (ownerP h) (r := false) (step := spec_AreOwners_l2 h)
    (fun i hi => by
      simp only [spec_AreOwners_l2, lt_ln hi, inb_n hi, gt_n hi, w64_n (show (i : Int) < 9223372036854775807 by omega), cond_true, need_true, (findThing h.Finds h.Chain[i].Thing m1).1, l36Claimed h h.Chain[i] m4, Option.bind_some, ownerP]
      by_cases hf : findIx h.Finds h.Chain[i].Thing < 0
      · rw [decide_eq_true hf]
        cases decide (h.Chain[i].Holder = 3) <;> cases h.Claims.any (servedP h.Chain[i]) <;> rfl
      · obtain ⟨k, hk, hlt⟩ := findIx_in hf
        rw [decide_eq_false hf]
        simp only [hk, inb_n hlt, need_true]
        cases decide (h.Chain[i].Holder = 3) <;> cases h.Claims.any (servedP h.Chain[i]) <;> cases decide ((gt h.Finds (k : Int)).Finder = h.Chain[i].Who) <;> rfl)
    (by simp only [spec_AreOwners_l2, ge_ln (Nat.le_refl _), cond_false])
  have hi := run_all h.Chain (ownerP h) (r := false) (step := impl_AreOwners_l2 h h.Chain (ln h.Chain))
    (fun i hi => by
      simp only [impl_AreOwners_l2, lt_ln hi, inb_n hi, gt_n hi, w64_n (show (i : Int) < 9223372036854775807 by omega), cond_true, need_true, (findThing h.Finds h.Chain[i].Thing m1).2, isServed h h.Chain[i] m4, Option.bind_some, ownerP]
      by_cases hf : findIx h.Finds h.Chain[i].Thing < 0
      · rw [decide_eq_true hf]
        cases decide (h.Chain[i].Holder = 3) <;> cases h.Claims.any (servedP h.Chain[i]) <;> rfl
      · obtain ⟨k, hk, hlt⟩ := findIx_in hf
        rw [decide_eq_false hf]
        simp only [hk, inb_n hlt, need_true]
        cases decide (h.Chain[i].Holder = 3) <;> cases h.Claims.any (servedP h.Chain[i]) <;> cases decide ((gt h.Finds (k : Int)).Finder = h.Chain[i].Who) <;> rfl)
    (by simp only [impl_AreOwners_l2, ge_ln (Nat.le_refl _), cond_false])
  refine ⟨h.Chain.all (ownerP h), ?_, ?_⟩
  · unfold spec_AreOwners; rw [hs]; cases h.Chain.all (ownerP h) <;> rfl
  · unfold impl_AreOwners; rw [hi]; cases h.Chain.all (ownerP h) <;> rfl
theorem isFind (f : Find) : impl_IsFind f = spec_IsFind f := rfl
theorem isFind_some (f : Find) : ∃ b, spec_IsFind f = some b ∧ (b = true → 1 ≤ f.Thing.Kind ∧ f.Thing.Kind ≤ 8) := by
  unfold spec_IsFind spec_IsThing spec_l1In
  simp only [Option.bind_some]
  cases h1 : (decide (1 ≤ f.Thing.Id) && decide (f.Thing.Id ≤ 999)) with
  | false => exact ⟨false, rfl, fun h => by cases h⟩
  | true =>
    cases h2 : (decide (1 ≤ f.Thing.Kind) && decide (f.Thing.Kind ≤ 8)) with
    | false => exact ⟨false, rfl, fun h => by cases h⟩
    | true =>
      have hk : 1 ≤ f.Thing.Kind ∧ f.Thing.Kind ≤ 8 := by simpa using h2
      simp only [cond_true]
      cases (decide (0 ≤ f.Thing.Colour) && decide (f.Thing.Colour ≤ 7)) <;> cases (decide (1 ≤ f.Thing.Size) && decide (f.Thing.Size ≤ 50)) <;> cases (decide (0 ≤ f.Thing.Worth) && decide (f.Thing.Worth ≤ 10000000)) <;>
        cases (decide (1 ≤ f.Place) && decide (f.Place ≤ 30)) <;> cases (decide (0 ≤ f.At) && decide (f.At ≤ 100000)) <;> cases (decide (0 ≤ f.Finder) && decide (f.Finder ≤ 999)) <;> exact ⟨_, rfl, fun _ => hk⟩
theorem keepDays (k : Int) (h1 : 1 ≤ k) (h2 : k ≤ 8) : ∃ d, spec_KeepDays k = some d ∧ impl_KeepDays k = some d := by
  have : k = 1 ∨ k = 2 ∨ k = 3 ∨ k = 4 ∨ k = 5 ∨ k = 6 ∨ k = 7 ∨ k = 8 := by omega
  rcases this with rfl | rfl | rfl | rfl | rfl | rfl | rfl | rfl <;> exact ⟨_, rfl, rfl⟩
theorem isDue (f : Find) (now : Int) : ∃ b, spec_IsDue f now = some b ∧ impl_IsDue f now = some b := by
  obtain ⟨b, h1, h2⟩ := isFind_some f
  unfold spec_IsDue impl_IsDue spec_DueHour impl_DueHour
  rw [isFind, h1]
  cases b with
  | false => exact ⟨false, rfl, rfl⟩
  | true =>
    obtain ⟨k1, k2⟩ := h2 rfl
    obtain ⟨d, h3, h4⟩ := keepDays f.Thing.Kind k1 k2
    simp only [Option.bind_some, cond_true, cond_false, Bool.not_true, h3, h4]
    exact ⟨_, rfl, rfl⟩
noncomputable def dueB (f : Find) (now : Int) : Bool := (spec_IsDue f now).getD false
theorem isDueB (f : Find) (now : Int) : spec_IsDue f now = some (dueB f now) ∧ impl_IsDue f now = some (dueB f now) := by
  obtain ⟨b, h1, h2⟩ := isDue f now
  unfold dueB
  rw [h1, h2]
  exact ⟨rfl, rfl⟩
/-- Nothing left early: with the house, served to its owner, or due. -/
noncomputable def earlyP (h : House) (x : Hand) : Bool :=
  decide (x.Holder ≤ 2) || ((decide (x.Holder = 3) && h.Claims.any (servedP x)) || (!decide (findIx h.Finds x.Thing < 0) && dueB (gt h.Finds (findIx h.Finds x.Thing)) x.At))
theorem isNeverEarly (h : House) (hm : sm_House h) : ∃ c, spec_IsNeverEarly h = some c ∧ impl_IsNeverEarly h = some c := by
  unfold sm_House at hm
  obtain ⟨m1, m2, m3, m4, m5, m6, m7⟩ := hm
  have hs := run_all h.Chain (earlyP h) (r := false) (step := spec_IsNeverEarly_l2 h)
    (fun i hi => by
      simp only [spec_IsNeverEarly_l2, lt_ln hi, inb_n hi, gt_n hi, w64_n (show (i : Int) < 9223372036854775807 by omega), cond_true, need_true, (findThing h.Finds h.Chain[i].Thing m1).1, l36Claimed h h.Chain[i] m4, Option.bind_some, earlyP]
      by_cases hf : findIx h.Finds h.Chain[i].Thing < 0
      · rw [decide_eq_true hf]
        cases decide (h.Chain[i].Holder ≤ 2) <;> cases decide (h.Chain[i].Holder = 3) <;> cases h.Claims.any (servedP h.Chain[i]) <;> rfl
      · obtain ⟨k, hk, hlt⟩ := findIx_in hf
        rw [decide_eq_false hf]
        simp only [hk, inb_n hlt, need_true, (isDueB _ _).1, Option.bind_some]
        cases decide (h.Chain[i].Holder ≤ 2) <;> cases decide (h.Chain[i].Holder = 3) <;> cases h.Claims.any (servedP h.Chain[i]) <;> cases dueB (gt h.Finds (k : Int)) h.Chain[i].At <;> rfl)
    (by simp only [spec_IsNeverEarly_l2, ge_ln (Nat.le_refl _), cond_false])
  have hi := run_all h.Chain (earlyP h) (r := false) (step := impl_IsNeverEarly_l2 h h.Chain (ln h.Chain))
    (fun i hi => by
      simp only [impl_IsNeverEarly_l2, lt_ln hi, inb_n hi, gt_n hi, w64_n (show (i : Int) < 9223372036854775807 by omega), cond_true, need_true, (findThing h.Finds h.Chain[i].Thing m1).2, isServed h h.Chain[i] m4, Option.bind_some, earlyP]
      by_cases hf : findIx h.Finds h.Chain[i].Thing < 0
      · rw [decide_eq_true hf]
        cases decide (h.Chain[i].Holder ≤ 2) <;> cases decide (h.Chain[i].Holder = 3) <;> cases h.Claims.any (servedP h.Chain[i]) <;> rfl
      · obtain ⟨k, hk, hlt⟩ := findIx_in hf
        rw [decide_eq_false hf]
        simp only [hk, inb_n hlt, need_true, (isDueB _ _).2, Option.bind_some]
        cases decide (h.Chain[i].Holder ≤ 2) <;> cases decide (h.Chain[i].Holder = 3) <;> cases h.Claims.any (servedP h.Chain[i]) <;> cases dueB (gt h.Finds (k : Int)) h.Chain[i].At <;> rfl)
    (by simp only [impl_IsNeverEarly_l2, ge_ln (Nat.le_refl _), cond_false])
  refine ⟨h.Chain.all (earlyP h), ?_, ?_⟩
  · unfold spec_IsNeverEarly; rw [hs]; cases h.Chain.all (earlyP h) <;> rfl
  · unfold impl_IsNeverEarly; rw [hi]; cases h.Chain.all (earlyP h) <;> rfl
end Go.Proofs.YtlnajgoeoklioaaGreat
