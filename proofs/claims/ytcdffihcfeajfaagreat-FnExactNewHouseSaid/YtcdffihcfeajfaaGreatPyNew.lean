/- A new house: the program's is the reference's. No condition but the length. -/
import Derived.Test.YtcdffihcfeajfaaGreatPyHs
namespace Go.Proofs.YtcdffihcfeajfaaGreat
open Go
set_option linter.unusedVariables false
set_option linter.unusedSimpArgs false
theorem free_all (l : List Slot) (hl : l.length ≤ 1048576) (h : ∀ x ∈ l, x.Thing = 0) : spec_FreeSlots l = some (ln l) := by
  have h1 := run_traj (step := spec_FreeSlots_l3 l) (fun i => ((i : Int), (i : Int))) (r := (l.length : Int)) l.length (fun i hi => by
      have h0 : decide (l[i].Thing = 0) = true := decide_eq_true (h _ (List.getElem_mem hi))
      simp only [spec_FreeSlots_l3, lt_ln hi, inb_n hi, gt_n hi, h0, cond_true, need_true, w64_n (show (i : Int) < 9223372036854775807 by omega)])
    (by simp only [spec_FreeSlots_l3, ge_ln (Nat.le_refl _), cond_false])
  unfold spec_FreeSlots
  rw [show run (spec_FreeSlots_l3 l) (0, 0) = _ from h1]; rfl
theorem kept_free (h : House) (m3 : h.Slots.length ≤ 1048576) (hf : h.Finds = []) (hk : impl_areKept h = some true) : ∀ x ∈ h.Slots, x.Thing = 0 := by
  unfold impl_areKept at hk
  cases hd : (!decide (ln h.Secrets = ln h.Finds)) with
  | true => rw [hd] at hk; cases hk
  | false =>
  rw [hd, cond_false] at hk
  cases hr : impl_InHouse h.Chain h.No with
  | none => rw [hr] at hk; cases hk
  | some r =>
  rw [hr] at hk
  simp only [Option.bind_some] at hk
  cases h5 : run (impl_areKept_l5 h r h.Finds (ln h.Finds)) 0 with
  | none => rw [h5] at hk; cases hk
  | some o =>
  rw [h5] at hk
  cases o with
  | ret b =>
    exfalso
    rw [hf] at h5
    rw [run_eq] at h5
    have : decide ((0 : Int) < ln ([] : List Find)) = false := by decide
    simp only [impl_areKept_l5, this, cond_false, Option.bind_some] at h5
    cases h5
  | brk u =>
  simp only [Option.bind_some, evO] at hk
  have m1 : h.Finds.length ≤ 1048576 := by rw [hf]; simp
  have t3 := run_all h.Slots (fun x => decide (x.Thing = 0) || !decide (findIx h.Finds x.Thing < 0)) (r := false) (step := impl_areKept_l11 h r h.Slots (ln h.Slots))
    (fun i hi => by
      simp only [impl_areKept_l11, lt_ln hi, inb_n hi, gt_n hi, w64_n (show (i : Int) < 9223372036854775807 by omega), cond_true, need_true, (findThing h.Finds _ m1).2, Option.bind_some]
      cases decide (h.Slots[i].Thing = 0) <;> cases decide (findIx h.Finds h.Slots[i].Thing < 0) <;> rfl)
    (by simp only [impl_areKept_l11, ge_ln (Nat.le_refl _), cond_false])
  rw [t3] at hk
  cases ha : h.Slots.all (fun x => decide (x.Thing = 0) || !decide (findIx h.Finds x.Thing < 0)) with
  | false => rw [ha] at hk; cases hk
  | true =>
    intro x hx
    have := List.all_eq_true.1 ha x hx
    rw [hf] at this
    simpa [findIx] using this
theorem newHouse (no : Int) (l : List Slot) (hl : l.length ≤ 1048576) : ∃ r, spec_NewHouse no l = some r ∧ impl_NewHouse no l = some r ∧ sm_House r.1 := by
  have hm : sm_House ⟨no, [], [], l, [], [], [], [], 0⟩ := ⟨by simp, ⟨by simp, by simp⟩, hl, by simp, by simp, by simp, by simp⟩
  have h0 : sm_House ⟨0, [], [], [], [], [], [], [], 0⟩ := ⟨by simp, ⟨by simp, by simp⟩, by simp, by simp, by simp, by simp, by simp⟩
  obtain ⟨b, b1, b2⟩ := isHouse _ hm
  unfold spec_NewHouse impl_NewHouse slices_Clone_Slot
  simp only [l33Copy _ hm, rm_ok (show 0 + l.length ≤ 2000000 by omega) (show 24 ≤ 1024 by omega), need_true, Option.bind_some, b1, b2]
  cases b with
  | false => exact ⟨_, rfl, rfl, h0⟩
  | true =>
    have hk := (houseOk _ hm b2).kept
    have hfree := free_all l hl (kept_free _ hl rfl hk)
    simp only [hfree, Bool.not_true, cond_false, Option.bind_some, decide_true]
    exact ⟨_, rfl, rfl, hm⟩
end Go.Proofs.YtcdffihcfeajfaaGreat
