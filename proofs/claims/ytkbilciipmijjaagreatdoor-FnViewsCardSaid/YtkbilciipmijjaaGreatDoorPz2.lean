/- Plain laws of the typed functions. No condition. -/
import Derived.Test.YtkbilciipmijjaaGreatDoorPz1
/- Steps of a house: what is behind a step. The program's answers are the reference's. No condition but the length. -/
namespace Go.Proofs.YtkbilciipmijjaaGreatDoor
open Go
set_option linter.unusedVariables false
set_option linter.unusedSimpArgs false
/-- Whether a house is in order. -/
noncomputable def houseB (h : House) : Bool := (impl_IsHouse h).getD false
theorem houseB_eq (h : House) (hm : sm_House h) : spec_IsHouse h = some (houseB h) ∧ impl_IsHouse h = some (houseB h) := by
  obtain ⟨c, c1, c2⟩ := isHouse h hm
  unfold houseB
  rw [c1, c2]
  exact ⟨rfl, rfl⟩
theorem houseB_ok (h : House) (hm : sm_House h) (hb : houseB h = true) : HouseOk h := houseOk h hm (by rw [(houseB_eq h hm).2, hb])
theorem cloneSecrets (l : List Secret) (hl : smL sm_Secret l) : impl_cloneSecrets l = some l := by
  have hlen := hl.1
  have h1 := run_traj (step := impl_cloneSecrets_l3 l (ln l)) (fun i => (l.take i, (i : Int))) (r := l) l.length (fun i hi => by
      have hm : l[i].Marks.length ≤ 1048576 := hl.2 _ (List.getElem_mem hi)
      have hr1 : rm (0 + l[i].Marks.length) 16 = true := rm_ok (by omega) (by omega)
      have hr2 : rm ((l.take i).length + 1) 40 = true := rm_ok (by rw [List.length_take]; omega) (by omega)
      simp only [impl_cloneSecrets_l3, slices_Clone_Mark, lt_ln hi, inb_n hi, gt_n hi, hr1, hr2, cond_true, need_true, Option.bind_some, w64_n (show (i : Int) < 9223372036854775807 by omega)]
      rw [List.take_succ_eq_append_getElem hi])
    (by simp only [impl_cloneSecrets_l3, ge_ln (Nat.le_refl _), cond_false, List.take_length])
  unfold impl_cloneSecrets
  rw [show run (impl_cloneSecrets_l3 l (ln l)) ([], 0) = _ from by simpa using h1]; rfl
theorem cloneHouse (h : House) (hm : sm_House h) : impl_cloneHouse h = some h := by
  obtain ⟨m1, m2, m3, m4, m5, m6, m7⟩ := hm
  unfold impl_cloneHouse slices_Clone_Find slices_Clone_Slot slices_Clone_Claim slices_Clone_Trial slices_Clone_Hand slices_Clone_Entry
  simp only [cloneSecrets _ m2, rm_ok (show 0 + h.Finds.length ≤ 2000000 by omega) (show 64 ≤ 1024 by omega), rm_ok (show 0 + h.Slots.length ≤ 2000000 by omega) (show 24 ≤ 1024 by omega), rm_ok (show 0 + h.Claims.length ≤ 2000000 by omega) (show 40 ≤ 1024 by omega),
    rm_ok (show 0 + h.Trials.length ≤ 2000000 by omega) (show 32 ≤ 1024 by omega), rm_ok (show 0 + h.Chain.length ≤ 2000000 by omega) (show 40 ≤ 1024 by omega), rm_ok (show 0 + h.Book.length ≤ 2000000 by omega) (show 32 ≤ 1024 by omega), need_true, Option.bind_some]
theorem anyFalse (l : List Bool) (hl : l.length ≤ 1048576) : slices_Contains_bool l false = some (!l.all id) := by
  have hr := run_find l (fun x => decide (false = x)) (fun i => (i : Int)) (step := slices_Index_bool_l2 l false (ln l))
    (fun i hi => by
      simp only [slices_Index_bool_l2, lt_ln hi, inb_n hi, gt_n hi, w64_n (show (i : Int) < 9223372036854775807 by omega), cond_true, need_true]
      cases decide (false = l[i]) <;> rfl)
    (by simp only [slices_Index_bool_l2, ge_ln (Nat.le_refl _), cond_false])
  unfold slices_Contains_bool slices_Index_bool
  rw [hr]
  have hall : l.all id = (l.findIdx? (fun x => decide (false = x))).isNone := by
    cases hf : l.findIdx? (fun x => decide (false = x)) with
    | none =>
      rw [List.findIdx?_eq_none_iff] at hf
      simp only [Option.isNone_none, List.all_eq_true]
      intro x hx
      have := hf x hx
      cases x <;> simp at this ⊢
    | some i =>
      obtain ⟨hlt, hp⟩ := find_at hf
      simp only [Option.isNone_some]
      rw [List.all_eq_false]
      exact ⟨l[i], List.getElem_mem hlt, by simp at hp; simp [← hp]⟩
  rw [hall]
  cases l.findIdx? (fun x => decide (false = x)) with
  | none => rfl
  | some i =>
    simp only [Option.bind_some, evO]
    rw [decide_eq_true (show (0 : Int) ≤ (i : Int) by omega)]; rfl
/-- What is behind a step. -/
noncomputable def stepR (h out : House) (ok : Bool) : House × Bool := bif ok && (houseB h && houseB out) then (out, true) else (h, false)
theorem stepR_sm (h out : House) (ok : Bool) (hm : sm_House h) (ho : sm_House out) : sm_House (stepR h out ok).1 := by
  unfold stepR
  cases ok && (houseB h && houseB out) <;> assumption
theorem stepR_false (h out : House) : stepR h out false = (h, false) := rfl
theorem stepR_bad (h out : House) (ok : Bool) (hb : houseB h = false) : stepR h out ok = (h, false) := by
  unfold stepR; rw [hb]; cases ok <;> rfl
theorem l34Done (h out : House) (ok : Bool) (hm : sm_House h) (ho : sm_House out) : spec_l34Done h out ok = some (stepR h out ok) := by
  unfold spec_l34Done stepR
  simp only [(houseB_eq h hm).1, (houseB_eq out ho).1, l33Copy h hm, Option.bind_some]
  cases ok <;> cases houseB h <;> cases houseB out <;> rfl
theorem smH {h : House} (hm : sm_House h) {f : List Find} {s : List Secret} {t : List Slot} {c : List Claim} {r : List Trial} {n : List Hand} {b : List Entry} {k : Int} (h1 : f.length ≤ 1048576) (h2 : smL sm_Secret s) (h3 : t.length ≤ 1048576) (h4 : c.length ≤ 1048576) (h5 : r.length ≤ 1048576) (h6 : n.length ≤ 1048576) (h7 : b.length ≤ 1048576) :
    sm_House ⟨h.No, f, s, t, c, r, n, b, k⟩ := ⟨h1, h2, h3, h4, h5, h6, h7⟩
end Go.Proofs.YtkbilciipmijjaaGreatDoor

/- Claims in order. The program's answers are the reference's. No condition but the length. -/
namespace Go.Proofs.YtkbilciipmijjaaGreatDoor
open Go
set_option linter.unusedVariables false
set_option linter.unusedSimpArgs false
/-- What is asked of a claim among claims. -/
def claimOk (l : List Claim) (i : Nat) : Bool :=
  (decide (1 ≤ (gt l (i : Int)).Id) && decide ((gt l (i : Int)).Id ≤ 999)) && ((decide (1 ≤ (gt l (i : Int)).Who) && decide ((gt l (i : Int)).Who ≤ 999)) && ((decide (1 ≤ (gt l (i : Int)).Thing) && decide ((gt l (i : Int)).Thing ≤ 999)) && ((decide (0 ≤ (gt l (i : Int)).At) && decide ((gt l (i : Int)).At ≤ 100000)) && ((decide (0 ≤ (gt l (i : Int)).State) && decide ((gt l (i : Int)).State ≤ 3)) &&
    ((decide (i = 0) || !decide ((gt l (i : Int)).Id ≤ (gt l ((i - 1 : Nat) : Int)).Id)) && !(l.take i).any (twice (gt l (i : Int))))))))
theorem claim_step (l : List Claim) (hl : l.length ≤ 2097152) (i : Nat) (hi : i < l.length) : spec_AreClaims_l2 l (i : Int) = some (bif claimOk l i then .inl ((i + 1 : Nat) : Int) else .inr (.ret false)) := by
  have hin := spec_claims_inner l i hi (by omega)
  simp only [spec_AreClaims_l2, claimOk, lt_ln hi, inb_n hi, gt_n hi, w64_n (show (i : Int) < 9223372036854775807 by omega), cond_true, need_true, spec_l1In, Option.bind_some, hin]
  generalize (l.take i).any (twice l[i]) = q
  by_cases h0 : 0 < i
  · simp only [show decide (0 < (i : Int)) = true from decide_eq_true (by omega), show decide (i = 0) = false from decide_eq_false (by omega), w64_pred h0 (by omega), inb_n (show i - 1 < l.length by omega), cond_true, need_true]
    cases (decide (1 ≤ l[i].Id) && decide (l[i].Id ≤ 999)) <;> cases (decide (1 ≤ l[i].Who) && decide (l[i].Who ≤ 999)) <;> cases (decide (1 ≤ l[i].Thing) && decide (l[i].Thing ≤ 999)) <;> cases (decide (0 ≤ l[i].At) && decide (l[i].At ≤ 100000)) <;> cases (decide (0 ≤ l[i].State) && decide (l[i].State ≤ 3)) <;> cases decide (l[i].Id ≤ (gt l ((i - 1 : Nat) : Int)).Id) <;> cases q <;> rfl
  · simp only [show decide (0 < (i : Int)) = false from decide_eq_false (by omega), show decide (i = 0) = true from decide_eq_true (by omega), cond_false]
    cases (decide (1 ≤ l[i].Id) && decide (l[i].Id ≤ 999)) <;> cases (decide (1 ≤ l[i].Who) && decide (l[i].Who ≤ 999)) <;> cases (decide (1 ≤ l[i].Thing) && decide (l[i].Thing ≤ 999)) <;> cases (decide (0 ≤ l[i].At) && decide (l[i].At ≤ 100000)) <;> cases (decide (0 ≤ l[i].State) && decide (l[i].State ≤ 3)) <;> cases q <;> rfl
theorem claims_all (l : List Claim) (hl : l.length ≤ 2097152) : spec_AreClaims l = some ((List.range l.length).all (claimOk l) && decide ((l.length : Int) ≤ 20)) := by
  have key : ∀ (m i : Nat), i + m = l.length → run (spec_AreClaims_l2 l) (i : Int) = some (bif (List.range' i m).all (claimOk l) then .brk () else .ret false) := by
    intro m
    induction m with
    | zero =>
      intro i hi
      have : i = l.length := by omega
      subst this
      rw [run_eq]
      simp only [spec_AreClaims_l2, ge_ln (Nat.le_refl _), cond_false, List.range'_zero, List.all_nil, cond_true, Option.bind_some]
    | succ m ih =>
      intro i hi
      rw [run_eq, claim_step l hl i (by omega), List.range'_succ, List.all_cons]
      cases claimOk l i with
      | false => rfl
      | true => simp only [cond_true, Bool.true_and]; exact ih (i + 1) (by omega)
  unfold spec_AreClaims
  rw [show run (spec_AreClaims_l2 l) 0 = _ from key l.length 0 (by omega), ← List.range_eq_range']
  cases (List.range l.length).all (claimOk l) <;> rfl
theorem claims_len (l : List Claim) (h : spec_AreClaims l = some true) (hl : l.length ≤ 2097152) : l.length ≤ 20 ∧ ∀ i, i < l.length → claimOk l i = true := by
  rw [claims_all l hl] at h
  simp only [Option.some.injEq, Bool.and_eq_true, decide_eq_true_eq, List.all_eq_true, List.mem_range] at h
  exact ⟨by omega, h.1⟩
theorem gt_set {α : Type} [Inhabited α] (l : List α) (k : Nat) (x : α) (i : Nat) (hi : i < l.length) : gt (l.set k x) (i : Int) = if i = k then x else gt l (i : Int) := by
  rw [gt_n (by rw [List.length_set]; exact hi), gt_n hi, List.getElem_set]
  by_cases h : i = k
  · subst h; simp
  · rw [if_neg h, if_neg (by omega)]
theorem any_twice_set (l : List Claim) (k i : Nat) (x y : Claim) (hi : i ≤ l.length) (hx : x.State ≠ 3) (h : (l.take i).any (twice y) = false) : ((l.set k x).take i).any (twice y) = false := by
  rw [List.any_eq_false] at h ⊢
  intro z hz
  obtain ⟨j, hj, rfl⟩ := List.getElem_of_mem hz
  have hj' : j < i ∧ j < l.length := by simp at hj; omega
  rw [List.getElem_take, List.getElem_set]
  by_cases hk : k = j
  · rw [if_pos hk]; unfold twice; simp [hx]
  · rw [if_neg hk]
    exact h _ (by
      rw [List.mem_take_iff_getElem]
      exact ⟨j, by omega, rfl⟩)
/-- A claim whose state goes on, but not to served: the claims stay in order. -/
theorem claims_set (l : List Claim) (k : Nat) (hk : k < l.length) (s : Int) (hs : s = 1 ∨ s = 2) (hl : l.length ≤ 1048576) (h : spec_AreClaims l = some true) : spec_AreClaims (l.set k ⟨l[k].Id, l[k].Who, l[k].Thing, l[k].At, s⟩) = some true := by
  obtain ⟨h1, h2⟩ := claims_len l h (by omega)
  rw [claims_all _ (by rw [List.length_set]; omega)]
  rw [List.length_set]
  have : (List.range l.length).all (claimOk (l.set k ⟨l[k].Id, l[k].Who, l[k].Thing, l[k].At, s⟩)) = true := by
    rw [List.all_eq_true]
    intro i hi
    rw [List.mem_range] at hi
    have ho := h2 i hi
    have hgi : ∀ j, j < l.length → (gt (l.set k ⟨l[k].Id, l[k].Who, l[k].Thing, l[k].At, s⟩) (j : Int)).Id = (gt l (j : Int)).Id := by
      intro j hj
      rw [gt_set l k _ j hj]
      by_cases hjk : j = k
      · subst hjk; rw [if_pos rfl, gt_n hj]
      · rw [if_neg hjk]
    unfold claimOk at ho ⊢
    rw [hgi i hi, hgi (i - 1) (by omega)]
    simp only [Bool.and_eq_true] at ho ⊢
    obtain ⟨o1, o2, o3, o4, o5, o6, o7⟩ := ho
    rw [gt_set l k _ i hi]
    by_cases hik : i = k
    · subst hik
      rw [gt_n hi] at o1 o2 o3 o4 o5 o6 o7
      rw [if_pos rfl, gt_n hi]
      refine ⟨o1, o2, o3, o4, ?_, o6, ?_⟩
      · rcases hs with rfl | rfl <;> exact ⟨rfl, rfl⟩
      · have hst : s ≠ 3 := by omega
        rw [show ((l.set i ⟨l[i].Id, l[i].Who, l[i].Thing, l[i].At, s⟩).take i).any (twice ⟨l[i].Id, l[i].Who, l[i].Thing, l[i].At, s⟩) = false from by
          rw [List.any_eq_false]; intro z _; unfold twice; simp [hst]]
        rfl
    · rw [if_neg hik]
      refine ⟨o1, o2, o3, o4, o5, o6, ?_⟩
      have o7' : (l.take i).any (twice (gt l (i : Int))) = false := by simpa using o7
      rw [any_twice_set l k i _ _ (by omega) (by show s ≠ 3; omega) o7']
      rfl
  rw [this]
  simp; omega
end Go.Proofs.YtkbilciipmijjaaGreatDoor

/- What is behind a step of the program. The program's answers are the reference's. No condition but the length. -/
namespace Go.Proofs.YtkbilciipmijjaaGreatDoor
open Go
set_option linter.unusedVariables false
set_option linter.unusedSimpArgs false
theorem stepped (h out : House) (done : List Bool) (hm : sm_House h) (ho : sm_House out) (hd : done.length ≤ 1048576) : impl_stepped h out done = some (stepR h out (done.all id)) := by
  unfold impl_stepped stepR
  simp only [(houseB_eq h hm).2, (houseB_eq out ho).2, cloneHouse h hm, anyFalse done hd, Option.bind_some]
  cases done.all id <;> cases houseB h <;> cases houseB out <;> rfl
end Go.Proofs.YtkbilciipmijjaaGreatDoor

/- Claims by id. The program's answers are the reference's. No condition but the length. -/
namespace Go.Proofs.YtkbilciipmijjaaGreatDoor
open Go
set_option linter.unusedVariables false
set_option linter.unusedSimpArgs false
/-- Claims by id. -/
def claimIx (l : List Claim) (id : Int) : Int := match l.findIdx? (fun x => decide (x.Id = id)) with | some i => (i : Int) | none => -1
theorem findClaimI (l : List Claim) (id : Int) (hl : l.length ≤ 1048576) : impl_FindClaim l id = some (claimIx l id) := by
  have hi := run_find l (fun x => decide (x.Id = id)) (fun i => (i : Int)) (step := slices_IndexFunc_Claim_cimpl_FindClaim_1_l2 l id (ln l))
    (fun i hi => by
      simp only [slices_IndexFunc_Claim_cimpl_FindClaim_1_l2, impl_FindClaim_1, Option.bind_some, lt_ln hi, inb_n hi, gt_n hi, w64_n (show (i : Int) < 9223372036854775807 by omega), cond_true, need_true]
      cases decide (l[i].Id = id) <;> rfl)
    (by simp only [slices_IndexFunc_Claim_cimpl_FindClaim_1_l2, ge_ln (Nat.le_refl _), cond_false])
  unfold impl_FindClaim slices_IndexFunc_Claim_cimpl_FindClaim_1 claimIx
  rw [hi]
  cases l.findIdx? (fun x => decide (x.Id = id)) <;> rfl
theorem claimIx_at (l : List Claim) (id : Int) : claimIx l id = -1 ∨ ∃ k : Nat, ∃ hk : k < l.length, claimIx l id = (k : Int) ∧ l[k].Id = id := by
  unfold claimIx
  cases hf : l.findIdx? (fun x => decide (x.Id = id)) with
  | none => exact .inl rfl
  | some i =>
    obtain ⟨hi, hp⟩ := find_at hf
    exact .inr ⟨i, hi, rfl, by simpa using hp⟩
theorem claimIx_has (l : List Claim) (id : Int) (j : Nat) (hj : j < l.length) (h : l[j].Id = id) : ∃ k : Nat, ∃ hk : k < l.length, claimIx l id = (k : Int) ∧ l[k].Id = id := by
  rcases claimIx_at l id with h0 | h0
  · exfalso
    unfold claimIx at h0
    cases hf : l.findIdx? (fun x => decide (x.Id = id)) with
    | none =>
      have := List.findIdx?_eq_none_iff.1 hf _ (List.getElem_mem hj)
      simp [h] at this
    | some i => rw [hf] at h0; simp only at h0; omega
  · exact h0
theorem trials_len (h : House) (ht : impl_areTrials h = some true) : h.Trials.length = h.Claims.length := by
  by_cases hlen : h.Trials.length = h.Claims.length
  · exact hlen
  · exfalso
    unfold impl_areTrials at ht
    rw [show (!decide (ln h.Trials = ln h.Claims)) = true from by rw [ln_eq, ln_eq]; simp; omega] at ht
    cases ht
end Go.Proofs.YtkbilciipmijjaaGreatDoor

/- Claims by id. The program's answers are the reference's. No condition but the length. -/
namespace Go.Proofs.YtkbilciipmijjaaGreatDoor
open Go
set_option linter.unusedVariables false
set_option linter.unusedSimpArgs false
theorem findClaim (l : List Claim) (id : Int) (hl : l.length ≤ 1048576) : spec_FindClaim l id = some (claimIx l id) ∧ impl_FindClaim l id = some (claimIx l id) := by
  have hs := run_find l (fun x => decide (x.Id = id)) (fun i => (i : Int)) (step := spec_FindClaim_l2 l id)
    (fun i hi => by
      simp only [spec_FindClaim_l2, lt_ln hi, inb_n hi, gt_n hi, w64_n (show (i : Int) < 9223372036854775807 by omega), cond_true, need_true]
      cases decide (l[i].Id = id) <;> rfl)
    (by simp only [spec_FindClaim_l2, ge_ln (Nat.le_refl _), cond_false])
  refine ⟨?_, findClaimI l id hl⟩
  unfold spec_FindClaim claimIx
  rw [hs]
  cases l.findIdx? (fun x => decide (x.Id = id)) <;> rfl
end Go.Proofs.YtkbilciipmijjaaGreatDoor

/- Steps of a claim's state. The program's answers are the reference's. No condition but the length. -/
namespace Go.Proofs.YtkbilciipmijjaaGreatDoor
open Go
set_option linter.unusedVariables false
set_option linter.unusedSimpArgs false
/-- Steps of a claim's state. -/
theorem setState (l : List Claim) (id s : Int) (hl : l.length ≤ 1048576) : ∃ r, spec_SetState l id s = some r ∧ impl_SetState l id s = some r ∧ r.1.length = l.length := by
  obtain ⟨c, c1, c2, c3⟩ := areClaims l hl
  unfold spec_SetState impl_SetState slices_Clone_Claim
  have hrm : rm (0 + l.length) 40 = true := rm_ok (by omega) (by omega)
  simp only [hrm, need_true, (findClaim l id hl).1, (findClaim l id hl).2, c1, c2, Option.bind_some]
  rcases claimIx_at l id with h | ⟨k, hk, h, hid⟩
  · rw [h]; exact ⟨(l, false), rfl, rfl, rfl⟩
  · rw [h, decide_eq_false (show ¬ (k : Int) < 0 by omega)]
    cases c with
    | false => exact ⟨(l, false), rfl, rfl, rfl⟩
    | true =>
      obtain ⟨d, d1, d2, d3⟩ := areClaims (l.set k ⟨l[k].Id, l[k].Who, l[k].Thing, l[k].At, s⟩) (by rw [List.length_set]; omega)
      simp only [cond_false, Option.bind_some, Bool.not_true, inb_n hk, gt_n hk, need_true, Int.toNat_natCast, d1, d2]
      have hset := List.length_set (as := l) (i := k) (a := (⟨l[k].Id, l[k].Who, l[k].Thing, l[k].At, s⟩ : Claim))
      cases decide (l[k].State = 0) <;> cases decide (s = 1) <;> cases decide (s = 2) <;> cases decide (l[k].State = 1) <;> cases decide (s = 3) <;> cases d <;> first | exact ⟨(l, false), rfl, rfl, rfl⟩ | exact ⟨(l.set k ⟨l[k].Id, l[k].Who, l[k].Thing, l[k].At, s⟩, true), rfl, rfl, hset⟩
end Go.Proofs.YtkbilciipmijjaaGreatDoor

/- Slots. The program's answers are the reference's. No condition but the length. -/
namespace Go.Proofs.YtkbilciipmijjaaGreatDoor
open Go
set_option linter.unusedVariables false
set_option linter.unusedSimpArgs false
theorem up_lt {n : Nat} (f : Nat → Int) (h : ∀ i, i < n → 0 < i → f (i - 1) < f i) : ∀ j i, i < j → j < n → f i < f j := by
  intro j
  induction j with
  | zero => intro i h1 _; omega
  | succ j ih =>
    intro i h1 h2
    have h3 := h (j + 1) h2 (by omega)
    rw [show j + 1 - 1 = j by omega] at h3
    by_cases hij : i = j
    · subst hij; exact h3
    · have := ih i (by omega) (by omega); omega
theorem slots_uniq (l : List Slot) (h : ∀ i (hi : i < l.length) (h0 : 0 < i), (l[i - 1]'(by omega)).Id < l[i].Id) (i j : Nat) (hi : i < l.length) (hj : j < l.length) (he : l[i].Id = l[j].Id) : i = j := by
  have hu := up_lt (n := l.length) (fun i => (gt l (i : Int)).Id) (fun i h1 h2 => by
    show (gt l ((i - 1 : Nat) : Int)).Id < (gt l (i : Int)).Id
    rw [gt_n h1, gt_n (show i - 1 < l.length by omega)]; exact h i h1 h2)
  by_cases h1 : i < j
  · have := hu j i h1 hj
    simp only [gt_n hi, gt_n hj] at this; omega
  · by_cases h2 : j < i
    · have := hu i j h2 hi
      simp only [gt_n hi, gt_n hj] at this; omega
    · omega
theorem slotOfV (l : List Slot) (t : Int) (hl : l.length ≤ 1048576) : spec_SlotOf l t = some (bif decide (t = 0) || decide (slotIx l t < 0) then 0 else (gt l (slotIx l t)).Id) := by
  have hr := run_find l (fun x => !decide (t = 0) && decide (x.Thing = t)) (fun i => (gt l (i : Int)).Id) (step := spec_SlotOf_l2 l t)
    (fun i hi => by
      simp only [spec_SlotOf_l2, lt_ln hi, inb_n hi, gt_n hi, w64_n (show (i : Int) < 9223372036854775807 by omega), cond_true, need_true]
      cases decide (t = 0) <;> cases decide (l[i].Thing = t) <;> rfl)
    (by simp only [spec_SlotOf_l2, ge_ln (Nat.le_refl _), cond_false])
  unfold spec_SlotOf slotIx
  rw [hr]
  cases decide (t = 0) with
  | true =>
    have : l.findIdx? (fun x => !true && decide (x.Thing = t)) = none := by rw [List.findIdx?_eq_none_iff]; intro x _; rfl
    rw [this]; rfl
  | false =>
    have e : (fun x : Slot => !false && decide (x.Thing = t)) = (fun x : Slot => decide (x.Thing = t)) := by funext x; simp
    rw [e]
    cases l.findIdx? (fun x => decide (x.Thing = t)) with
    | none => rfl
    | some i =>
      simp only [Option.bind_some, evO, Bool.false_or, decide_eq_false (show ¬ (i : Int) < 0 by omega), cond_false]
/-- Where the thing is: its slot, or none. -/
def inSlot (l : List Slot) (t : Int) : Bool := !(decide (t = 0) || decide (slotIx l t < 0))
theorem slotWith_in (l : List Slot) (t : Int) (hl : l.length ≤ 1048576) : ∃ c, impl_slotWith l t = some c ∧ decide (c < 0) = !inSlot l t := by
  rw [slotWith l t hl]
  unfold inSlot
  cases decide (t = 0) with
  | true => exact ⟨-1, rfl, rfl⟩
  | false => exact ⟨slotIx l t, rfl, by simp⟩
end Go.Proofs.YtkbilciipmijjaaGreatDoor

/- A hand more. The program's answers are the reference's. No condition but the length. -/
namespace Go.Proofs.YtkbilciipmijjaaGreatDoor
open Go
set_option linter.unusedVariables false
set_option linter.unusedSimpArgs false
theorem addHand (l : List Hand) (x : Hand) (hl : l.length ≤ 1048576) : ∃ r, spec_AddHand l x = some r ∧ impl_AddHand l x = some r ∧ r.1.length ≤ 1048576 := by
  have hrm : rm (0 + l.length) 40 = true := rm_ok (by omega) (by omega)
  have hrm1 : rm (l.length + 1) 40 = true := rm_ok (by omega) (by omega)
  unfold spec_AddHand impl_AddHand slices_Clone_Hand
  have tail : ∀ s : Int, ∃ r, ((spec_HandSeal s x).bind fun r => nd (rm (0 + l.length) 40) <| nd (rm (l.length + 1) 40) <| (spec_IsChain (l ++ [(⟨x.Thing, x.Holder, x.Who, x.At, r⟩ : Hand)])).bind fun r2 => (bif (!r2) then nd (rm (0 + l.length) 40) <| some (l, false) else some (l ++ [(⟨x.Thing, x.Holder, x.Who, x.At, r⟩ : Hand)], true))) = some r ∧
      ((impl_HandSeal s x).bind fun r => (nd (rm (0 + l.length) 40) <| some l).bind fun r2 => nd (rm (r2.length + 1) 40) <| (impl_IsChain (r2 ++ [(⟨x.Thing, x.Holder, x.Who, x.At, r⟩ : Hand)])).bind fun r3 => (bif (!r3) then (nd (rm (0 + l.length) 40) <| some l).bind fun r4 => some (r4, false) else some (r2 ++ [(⟨x.Thing, x.Holder, x.Who, x.At, r⟩ : Hand)], true))) = some r ∧ r.1.length ≤ 1048576 := by
    intro s
    obtain ⟨c, c1, c2⟩ := handSeal s x
    obtain ⟨b, b1, b2, b3⟩ := isChain (l ++ [(⟨x.Thing, x.Holder, x.Who, x.At, c⟩ : Hand)])
    simp only [c1, c2, Option.bind_some, hrm, hrm1, need_true, b1, b2]
    cases b with
    | false => exact ⟨(l, false), rfl, rfl, hl⟩
    | true => exact ⟨_, rfl, rfl, by have := (b3 rfl).1; show (l ++ _).length ≤ _; omega⟩
  by_cases h0 : 0 < l.length
  · simp only [show decide (0 < ln l) = true from decide_eq_true (by rw [ln_eq]; omega), cond_true, show w64 (ln l - 1) = ((l.length - 1 : Nat) : Int) from by rw [ln_eq, w64_in] <;> omega, inb_n (show l.length - 1 < l.length by omega), need_true]
    exact tail _
  · simp only [show decide (0 < ln l) = false from decide_eq_false (by rw [ln_eq]; omega), cond_false]
    exact tail 0
end Go.Proofs.YtkbilciipmijjaaGreatDoor
