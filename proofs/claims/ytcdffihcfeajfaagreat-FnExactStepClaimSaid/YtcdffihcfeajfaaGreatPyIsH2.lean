/- What makes a house valid, part two: slots, claims, who has what. The program's answers are the reference's. No condition but the length. -/
import Derived.Test.YtcdffihcfeajfaaGreatPyIsH1
namespace Go.Proofs.YtcdffihcfeajfaaGreat
open Go
set_option linter.unusedVariables false
set_option linter.unusedSimpArgs false
theorem cut_take {α : Type} (l : List α) (i : Nat) : cut l 0 (i : Int) = l.take i := by simp [cut]
theorem slB_ok {i n : Nat} (h : i ≤ n) : slB 0 (i : Int) (n : Int) = true := by unfold slB; simp; omega
/-- The first slot of a thing. -/
def slotIx (l : List Slot) (t : Int) : Int := match l.findIdx? (fun x => decide (x.Thing = t)) with | some i => (i : Int) | none => -1
theorem slotWith (l : List Slot) (t : Int) (hl : l.length ≤ 1048576) : impl_slotWith l t = some (bif decide (t = 0) then -1 else slotIx l t) := by
  have hi := run_find l (fun x => decide (x.Thing = t)) (fun i => (i : Int)) (step := slices_IndexFunc_Slot_cimpl_slotWith_1_l2 l t (ln l))
    (fun i hi => by
      simp only [slices_IndexFunc_Slot_cimpl_slotWith_1_l2, impl_slotWith_1, Option.bind_some, lt_ln hi, inb_n hi, gt_n hi, w64_n (show (i : Int) < 9223372036854775807 by omega), cond_true, need_true]
      cases decide (l[i].Thing = t) <;> rfl)
    (by simp only [slices_IndexFunc_Slot_cimpl_slotWith_1_l2, ge_ln (Nat.le_refl _), cond_false])
  unfold impl_slotWith slices_IndexFunc_Slot_cimpl_slotWith_1 slotIx
  rw [hi]
  cases decide (t = 0) with
  | true => rfl
  | false => cases l.findIdx? (fun x => decide (x.Thing = t)) <;> rfl
theorem slotIx_any (l : List Slot) (t : Int) : (l.any (fun x => decide (x.Thing = t)) = false ∧ slotIx l t = -1) ∨ ∃ k : Nat, ∃ hk : k < l.length, slotIx l t = (k : Int) ∧ l[k].Thing = t ∧ l.any (fun x => decide (x.Thing = t)) = true := by
  unfold slotIx
  cases hf : l.findIdx? (fun x => decide (x.Thing = t)) with
  | none =>
    left
    refine ⟨?_, rfl⟩
    rw [List.any_eq_false]
    intro y hy
    have := List.findIdx?_eq_none_iff.1 hf y hy
    simpa using this
  | some i =>
    obtain ⟨hi, hp⟩ := find_at hf
    right
    exact ⟨i, hi, rfl, by simpa using hp, List.any_eq_true.2 ⟨_, List.getElem_mem hi, hp⟩⟩
theorem slotOfI (l : List Slot) (t : Int) (hl : l.length ≤ 1048576) (hid : ∀ x ∈ l, 1 ≤ x.Id) : ∃ c, impl_SlotOf l t = some c ∧ decide (c = 0) = !(!decide (t = 0) && l.any (fun x => decide (x.Thing = t))) := by
  unfold impl_SlotOf
  rw [slotWith l t hl]
  by_cases ht : t = 0
  · rw [decide_eq_true ht]; exact ⟨0, rfl, rfl⟩
  · rw [decide_eq_false ht]
    simp only [cond_false, Option.bind_some]
    rcases slotIx_any l t with ⟨h1, h2⟩ | ⟨k, hk, h1, h2, h3⟩
    · rw [h1, h2]; exact ⟨0, rfl, rfl⟩
    · have hpos := hid l[k] (List.getElem_mem hk)
      rw [h1, h3, decide_eq_false (show ¬ (k : Int) < 0 by omega), inb_n hk, gt_n hk]
      refine ⟨l[k].Id, rfl, ?_⟩
      rw [decide_eq_false (by omega)]; rfl
theorem spec_slots_inner (l : List Slot) (i : Nat) (hi : i < l.length) (hl : l.length ≤ 1048576) :
    run (spec_AreSlots_l7 l (i : Int)) 0 = some (bif (!decide (l[i].Thing = 0) && (l.take i).any (fun x => decide (x.Thing = l[i].Thing))) then .ret false else .brk ()) := by
  have hlen : (l.take i).length = i := by simp; omega
  have hr := run_any (l.take i) (fun x => !decide (l[i].Thing = 0) && decide (x.Thing = l[i].Thing)) (r := false) (step := spec_AreSlots_l7 l (i : Int))
    (fun k hk => by
      rw [hlen] at hk
      have hkl : k < l.length := by omega
      have e : (l.take i)[k]'(by rw [hlen]; exact hk) = l[k] := by simp
      simp only [spec_AreSlots_l7, e, show decide ((k : Int) < (i : Int)) = true from decide_eq_true (by omega), inb_n hi, gt_n hi, inb_n hkl, gt_n hkl, w64_n (show (k : Int) < 9223372036854775807 by omega), cond_true, need_true]
      cases decide (l[i].Thing = 0) <;> cases decide (l[k].Thing = l[i].Thing) <;> rfl)
    (by rw [hlen]; simp only [spec_AreSlots_l7, show decide ((i : Int) < (i : Int)) = false from decide_eq_false (by omega), cond_false])
  rw [hr]
  congr 1
  cases decide (l[i].Thing = 0) with
  | true =>
    have : (l.take i).any (fun x => !true && decide (x.Thing = l[i].Thing)) = false := by rw [List.any_eq_false]; simp
    rw [this]; rfl
  | false => simp
theorem areSlotsU (l : List Slot) (hl : l.length ≤ 1048576) : ∃ b, spec_AreSlots l = some b ∧ impl_AreSlots l = some b ∧ (b = true → l.length ≤ 30 ∧ (∀ x ∈ l, 1 ≤ x.Id) ∧ ∀ i (h : i < l.length) (h0 : 0 < i), (l[i - 1]'(by omega)).Id < l[i].Id) := by
  have idOf : ∀ i (hi : i < l.length), spec_AreSlots_l2 l (i : Int) = some (.inl ((i + 1 : Nat) : Int)) → 1 ≤ l[i].Id := by
    intro i hi hstep
    by_cases h : 1 ≤ l[i].Id
    · exact h
    · exfalso
      have e : (decide (1 ≤ l[i].Id) && decide (l[i].Id ≤ 99)) = false := by rw [decide_eq_false h]; rfl
      simp only [spec_AreSlots_l2, lt_ln hi, inb_n hi, gt_n hi, cond_true, need_true, spec_l1In, Option.bind_some, e, Bool.not_false] at hstep
      simp at hstep
  obtain ⟨b, h1, h2, h3⟩ := run_both (n := l.length) (r := false) (s1 := spec_AreSlots_l2 l) (s2 := impl_AreSlots_l4 l l (ln l)) (fun i hi hpre => by
      have hids : ∀ x ∈ l.take i, 1 ≤ x.Id := by
        intro x hx
        obtain ⟨k, hk, rfl⟩ := List.getElem_of_mem hx
        have hk' : k < i := by simp at hk; omega
        simp only [List.getElem_take]
        exact idOf k (by omega) (hpre k hk')
      obtain ⟨c, c1, c2⟩ := slotOfI (l.take i) l[i].Thing (by simp; omega) hids
      have hsl : slB 0 (i : Int) (ln l) = true := slB_ok (by omega)
      simp only [spec_AreSlots_l2, impl_AreSlots_l4, lt_ln hi, inb_n hi, gt_n hi, w64_n (show (i : Int) < 9223372036854775807 by omega), cond_true, need_true, spec_l1In, impl_InRange, Option.bind_some, spec_slots_inner l i hi hl, cut_take, c1, c2, hsl]
      generalize (!decide (l[i].Thing = 0) && (l.take i).any (fun x => decide (x.Thing = l[i].Thing))) = q
      by_cases h0 : 0 < i
      · simp only [show decide (0 < (i : Int)) = true from decide_eq_true (by omega), w64_pred h0 (by omega), inb_n (show i - 1 < l.length by omega), cond_true, need_true]
        cases (decide (1 ≤ l[i].Id) && decide (l[i].Id ≤ 99)) <;> cases (decide (1 ≤ l[i].Size) && decide (l[i].Size ≤ 50)) <;> cases (decide (0 ≤ l[i].Thing) && decide (l[i].Thing ≤ 999)) <;> cases decide (l[i].Id ≤ (gt l ((i - 1 : Nat) : Int)).Id) <;> cases q <;> first | exact ⟨true, rfl, rfl⟩ | exact ⟨false, rfl, rfl⟩
      · simp only [show decide (0 < (i : Int)) = false from decide_eq_false (by omega), cond_false]
        cases (decide (1 ≤ l[i].Id) && decide (l[i].Id ≤ 99)) <;> cases (decide (1 ≤ l[i].Size) && decide (l[i].Size ≤ 50)) <;> cases (decide (0 ≤ l[i].Thing) && decide (l[i].Thing ≤ 999)) <;> cases q <;> first | exact ⟨true, rfl, rfl⟩ | exact ⟨false, rfl, rfl⟩)
    (by simp only [spec_AreSlots_l2, ge_ln (Nat.le_refl _), cond_false]) (by simp only [impl_AreSlots_l4, ge_ln (Nat.le_refl _), cond_false])
  refine ⟨b && decide ((l.length : Int) ≤ 30), (are_end _ h1).1, (are_end _ h2).2, fun hb => ?_⟩
  simp only [Bool.and_eq_true, decide_eq_true_eq] at hb
  refine ⟨by omega, fun x hx => ?_, fun i hi h0 => ?_⟩
  · obtain ⟨k, hk, rfl⟩ := List.getElem_of_mem hx
    exact idOf k hk (h3 hb.1 k hk).1
  · have hstep := (h3 hb.1 i hi).1
    simp only [spec_AreSlots_l2, lt_ln hi, inb_n hi, gt_n hi, cond_true, need_true, spec_l1In, spec_slots_inner l i hi hl, Option.bind_some, show decide (0 < (i : Int)) = true from decide_eq_true (by omega), w64_pred h0 (by omega), inb_n (show i - 1 < l.length by omega), gt_n (show i - 1 < l.length by omega)] at hstep
    by_cases hlt : l[i].Id ≤ (l[i - 1]'(by omega)).Id
    · exfalso
      rw [decide_eq_true hlt] at hstep
      revert hstep
      cases (decide (1 ≤ l[i].Id) && decide (l[i].Id ≤ 99)) <;> cases (decide (1 ≤ l[i].Size) && decide (l[i].Size ≤ 50)) <;> cases (decide (0 ≤ l[i].Thing) && decide (l[i].Thing ≤ 999)) <;> simp
    · omega
theorem areSlots (l : List Slot) (hl : l.length ≤ 1048576) : ∃ b, spec_AreSlots l = some b ∧ impl_AreSlots l = some b ∧ (b = true → l.length ≤ 30 ∧ ∀ x ∈ l, 1 ≤ x.Id) := by
  obtain ⟨b, h1, h2, h3⟩ := areSlotsU l hl
  exact ⟨b, h1, h2, fun h => ⟨(h3 h).1, (h3 h).2.1⟩⟩
/-- Claims. -/
def twice (x y : Claim) : Bool := decide (x.State = 3) && (decide (y.State = 3) && decide (y.Thing = x.Thing))
theorem spec_claims_inner (l : List Claim) (i : Nat) (hi : i < l.length) (hl : l.length ≤ 2097152) :
    run (spec_AreClaims_l8 l (i : Int) l[i]) 0 = some (bif (l.take i).any (twice l[i]) then .ret false else .brk ()) := by
  have hlen : (l.take i).length = i := by simp; omega
  exact run_any (l.take i) (twice l[i]) (r := false) (step := spec_AreClaims_l8 l (i : Int) l[i])
    (fun k hk => by
      rw [hlen] at hk
      have hkl : k < l.length := by omega
      have e : (l.take i)[k]'(by rw [hlen]; exact hk) = l[k] := by simp
      simp only [spec_AreClaims_l8, twice, e, show decide ((k : Int) < (i : Int)) = true from decide_eq_true (by omega), inb_n hkl, gt_n hkl, w64_n (show (k : Int) < 9223372036854775807 by omega), cond_true, need_true]
      cases decide (l[i].State = 3) <;> cases decide (l[k].State = 3) <;> cases decide (l[k].Thing = l[i].Thing) <;> rfl)
    (by rw [hlen]; simp only [spec_AreClaims_l8, show decide ((i : Int) < (i : Int)) = false from decide_eq_false (by omega), cond_false])
theorem impl_claims_inner (l t : List Claim) (x : Claim) (a b : Int) (p : List Claim) (hp : p.length ≤ 2097152) :
    run (impl_AreClaims_l9 l x t a b p (ln p)) 0 = some (bif p.any (twice x) then .ret false else .brk ()) := by
  exact run_any p (twice x) (r := false) (step := impl_AreClaims_l9 l x t a b p (ln p))
    (fun k hk => by
      have hc : decide (x.Thing = p[k].Thing) = decide (p[k].Thing = x.Thing) := by rw [decide_eq_decide]; exact eq_comm
      simp only [impl_AreClaims_l9, twice, lt_ln hk, inb_n hk, gt_n hk, hc, w64_n (show (k : Int) < 9223372036854775807 by omega), cond_true, need_true]
      cases (decide (x.State = 3) && (decide (p[k].State = 3) && decide (p[k].Thing = x.Thing))) <;> rfl)
    (by simp only [impl_AreClaims_l9, ge_ln (Nat.le_refl _), cond_false])
theorem areClaimsL (l : List Claim) (hl : l.length ≤ 2097152) : ∃ b, spec_AreClaims l = some b ∧ impl_AreClaims l = some b ∧ (b = true → l.length ≤ 20 ∧ ∀ i (h : i < l.length), 0 ≤ l[i].State ∧ l[i].State ≤ 3) := by
  obtain ⟨b, h1, h2, h3⟩ := run_both (n := l.length) (r := false) (s1 := spec_AreClaims_l2 l) (s2 := impl_AreClaims_l4 l l (ln l)) (fun i hi _ => by
      have hsl : slB 0 (i : Int) (ln l) = true := slB_ok (by omega)
      simp only [spec_AreClaims_l2, impl_AreClaims_l4, lt_ln hi, inb_n hi, gt_n hi, w64_n (show (i : Int) < 9223372036854775807 by omega), cond_true, need_true, spec_l1In, impl_InRange, Option.bind_some, spec_claims_inner l i hi hl, cut_take, hsl, impl_claims_inner l l l[i] (ln l) (i : Int) (l.take i) (by simp; omega)]
      generalize (l.take i).any (twice l[i]) = q
      by_cases h0 : 0 < i
      · simp only [show decide (0 < (i : Int)) = true from decide_eq_true (by omega), w64_pred h0 (by omega), inb_n (show i - 1 < l.length by omega), cond_true, need_true]
        cases (decide (1 ≤ l[i].Id) && decide (l[i].Id ≤ 999)) <;> cases (decide (1 ≤ l[i].Who) && decide (l[i].Who ≤ 999)) <;> cases (decide (1 ≤ l[i].Thing) && decide (l[i].Thing ≤ 999)) <;> cases (decide (0 ≤ l[i].At) && decide (l[i].At ≤ 100000)) <;> cases (decide (0 ≤ l[i].State) && decide (l[i].State ≤ 3)) <;> cases decide (l[i].Id ≤ (gt l ((i - 1 : Nat) : Int)).Id) <;> cases q <;> first | exact ⟨true, rfl, rfl⟩ | exact ⟨false, rfl, rfl⟩
      · simp only [show decide (0 < (i : Int)) = false from decide_eq_false (by omega), cond_false]
        cases (decide (1 ≤ l[i].Id) && decide (l[i].Id ≤ 999)) <;> cases (decide (1 ≤ l[i].Who) && decide (l[i].Who ≤ 999)) <;> cases (decide (1 ≤ l[i].Thing) && decide (l[i].Thing ≤ 999)) <;> cases (decide (0 ≤ l[i].At) && decide (l[i].At ≤ 100000)) <;> cases (decide (0 ≤ l[i].State) && decide (l[i].State ≤ 3)) <;> cases q <;> first | exact ⟨true, rfl, rfl⟩ | exact ⟨false, rfl, rfl⟩)
    (by simp only [spec_AreClaims_l2, ge_ln (Nat.le_refl _), cond_false]) (by simp only [impl_AreClaims_l4, ge_ln (Nat.le_refl _), cond_false])
  refine ⟨b && decide ((l.length : Int) ≤ 20), (are_end _ h1).1, (are_end _ h2).2, fun hb => ?_⟩
  simp only [Bool.and_eq_true, decide_eq_true_eq] at hb
  refine ⟨by omega, fun i hi => ?_⟩
  have hstep := (h3 hb.1 i hi).1
  simp only [spec_AreClaims_l2, lt_ln hi, inb_n hi, gt_n hi, cond_true, need_true, spec_l1In, Option.bind_some] at hstep
  by_cases hst : (decide (0 ≤ l[i].State) && decide (l[i].State ≤ 3)) = true
  · simpa using hst
  · exfalso
    simp only [Bool.eq_false_iff.2 hst, Bool.not_false, cond_true] at hstep
    revert hstep
    cases (decide (1 ≤ l[i].Id) && decide (l[i].Id ≤ 999)) <;> cases (decide (1 ≤ l[i].Who) && decide (l[i].Who ≤ 999)) <;> cases (decide (1 ≤ l[i].Thing) && decide (l[i].Thing ≤ 999)) <;> cases (decide (0 ≤ l[i].At) && decide (l[i].At ≤ 100000)) <;> simp
theorem areClaims (l : List Claim) (hl : l.length ≤ 1048576) : ∃ b, spec_AreClaims l = some b ∧ impl_AreClaims l = some b ∧ (b = true → l.length ≤ 20 ∧ ∀ i (h : i < l.length), 0 ≤ l[i].State ∧ l[i].State ≤ 3) := areClaimsL l (by omega)
end Go.Proofs.YtcdffihcfeajfaaGreat
