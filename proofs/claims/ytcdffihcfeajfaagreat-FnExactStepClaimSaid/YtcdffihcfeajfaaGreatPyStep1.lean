/- Steps of a house: what is behind a step. The program's answers are the reference's. No condition but the length. -/
import Derived.Test.YtcdffihcfeajfaaGreatPyHs
namespace Go.Proofs.YtcdffihcfeajfaaGreat
open Go
set_option linter.unusedVariables false
set_option linter.unusedSimpArgs false
/-- Whether a house is in order. -/
noncomputable def houseB (h : House) : Bool := (impl_IsHouse h).getD false
theorem houseB_eq (h : House) (hm : sm_House h) : spec_IsHouse h = some (houseB h) ∧ impl_IsHouse h = some (houseB h) := by
  obtain ⟨c, c1, c2⟩ := isHouse h hm
  unfold houseB
  rw [c1, c2]
  exact ⟨rfl, rfl⟩
theorem houseB_ok (h : House) (hm : sm_House h) (hb : houseB h = true) : HouseOk h := houseOk h hm (by rw [(houseB_eq h hm).2, hb])
theorem cloneSecrets (l : List Secret) (hl : smL sm_Secret l) : impl_cloneSecrets l = some l := by
  have hlen := hl.1
  have h1 := run_traj (step := impl_cloneSecrets_l3 l (ln l)) (fun i => (l.take i, (i : Int))) (r := l) l.length (fun i hi => by
      have hm : l[i].Marks.length ≤ 1048576 := hl.2 _ (List.getElem_mem hi)
      have hr1 : rm (0 + l[i].Marks.length) 16 = true := rm_ok (by omega) (by omega)
      have hr2 : rm ((l.take i).length + 1) 40 = true := rm_ok (by rw [List.length_take]; omega) (by omega)
      simp only [impl_cloneSecrets_l3, slices_Clone_Mark, lt_ln hi, inb_n hi, gt_n hi, hr1, hr2, cond_true, need_true, Option.bind_some, w64_n (show (i : Int) < 9223372036854775807 by omega)]
      rw [List.take_succ_eq_append_getElem hi])
    (by simp only [impl_cloneSecrets_l3, ge_ln (Nat.le_refl _), cond_false, List.take_length])
  unfold impl_cloneSecrets
  rw [show run (impl_cloneSecrets_l3 l (ln l)) ([], 0) = _ from by simpa using h1]; rfl
theorem cloneHouse (h : House) (hm : sm_House h) : impl_cloneHouse h = some h := by
  obtain ⟨m1, m2, m3, m4, m5, m6, m7⟩ := hm
  unfold impl_cloneHouse slices_Clone_Find slices_Clone_Slot slices_Clone_Claim slices_Clone_Trial slices_Clone_Hand slices_Clone_Entry
  simp only [cloneSecrets _ m2, rm_ok (show 0 + h.Finds.length ≤ 2000000 by omega) (show 64 ≤ 1024 by omega), rm_ok (show 0 + h.Slots.length ≤ 2000000 by omega) (show 24 ≤ 1024 by omega), rm_ok (show 0 + h.Claims.length ≤ 2000000 by omega) (show 40 ≤ 1024 by omega),
    rm_ok (show 0 + h.Trials.length ≤ 2000000 by omega) (show 32 ≤ 1024 by omega), rm_ok (show 0 + h.Chain.length ≤ 2000000 by omega) (show 40 ≤ 1024 by omega), rm_ok (show 0 + h.Book.length ≤ 2000000 by omega) (show 32 ≤ 1024 by omega), need_true, Option.bind_some]
theorem anyFalse (l : List Bool) (hl : l.length ≤ 1048576) : slices_Contains_bool l false = some (!l.all id) := by
  have hr := run_find l (fun x => decide (false = x)) (fun i => (i : Int)) (step := slices_Index_bool_l2 l false (ln l))
    (fun i hi => by
      simp only [slices_Index_bool_l2, lt_ln hi, inb_n hi, gt_n hi, w64_n (show (i : Int) < 9223372036854775807 by omega), cond_true, need_true]
      cases decide (false = l[i]) <;> rfl)
    (by simp only [slices_Index_bool_l2, ge_ln (Nat.le_refl _), cond_false])
  unfold slices_Contains_bool slices_Index_bool
  rw [hr]
  have hall : l.all id = (l.findIdx? (fun x => decide (false = x))).isNone := by
    cases hf : l.findIdx? (fun x => decide (false = x)) with
    | none =>
      rw [List.findIdx?_eq_none_iff] at hf
      simp only [Option.isNone_none, List.all_eq_true]
      intro x hx
      have := hf x hx
      cases x <;> simp at this ⊢
    | some i =>
      obtain ⟨hlt, hp⟩ := find_at hf
      simp only [Option.isNone_some]
      rw [List.all_eq_false]
      exact ⟨l[i], List.getElem_mem hlt, by simp at hp; simp [← hp]⟩
  rw [hall]
  cases l.findIdx? (fun x => decide (false = x)) with
  | none => rfl
  | some i =>
    simp only [Option.bind_some, evO]
    rw [decide_eq_true (show (0 : Int) ≤ (i : Int) by omega)]; rfl
/-- What is behind a step. -/
noncomputable def stepR (h out : House) (ok : Bool) : House × Bool := bif ok && (houseB h && houseB out) then (out, true) else (h, false)
theorem stepR_sm (h out : House) (ok : Bool) (hm : sm_House h) (ho : sm_House out) : sm_House (stepR h out ok).1 := by
  unfold stepR
  cases ok && (houseB h && houseB out) <;> assumption
theorem stepR_false (h out : House) : stepR h out false = (h, false) := rfl
theorem stepR_bad (h out : House) (ok : Bool) (hb : houseB h = false) : stepR h out ok = (h, false) := by
  unfold stepR; rw [hb]; cases ok <;> rfl
theorem l34Done (h out : House) (ok : Bool) (hm : sm_House h) (ho : sm_House out) : spec_l34Done h out ok = some (stepR h out ok) := by
  unfold spec_l34Done stepR
  simp only [(houseB_eq h hm).1, (houseB_eq out ho).1, l33Copy h hm, Option.bind_some]
  cases ok <;> cases houseB h <;> cases houseB out <;> rfl
theorem smH {h : House} (hm : sm_House h) {f : List Find} {s : List Secret} {t : List Slot} {c : List Claim} {r : List Trial} {n : List Hand} {b : List Entry} {k : Int} (h1 : f.length ≤ 1048576) (h2 : smL sm_Secret s) (h3 : t.length ≤ 1048576) (h4 : c.length ≤ 1048576) (h5 : r.length ≤ 1048576) (h6 : n.length ≤ 1048576) (h7 : b.length ≤ 1048576) :
    sm_House ⟨h.No, f, s, t, c, r, n, b, k⟩ := ⟨h1, h2, h3, h4, h5, h6, h7⟩
end Go.Proofs.YtcdffihcfeajfaaGreat
