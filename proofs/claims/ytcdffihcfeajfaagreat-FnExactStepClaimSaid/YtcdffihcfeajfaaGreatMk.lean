/- The marks of the laws, plainly: what is marked is found to hold the marks. No condition but the length. -/
import Derived.Test.YtcdffihcfeajfaaGreatFn
import Derived.Test.YtcdffihcfeajfaaGreatPyMk0
namespace Go.Proofs.YtcdffihcfeajfaaGreat
open Go
set_option maxHeartbeats 4000000
set_option linter.unusedVariables false
set_option linter.unusedSimpArgs false
set_option linter.defProp false
set_option maxRecDepth 100000
def mkP_Find (x : Find) : Prop := True
theorem mk_FindS (a : List Find) (k : Int) (h : a.length ≤ 2097152) (hP : ∀ x ∈ a, mkP_Find x) (h0 : 0 ≤ k) (hk : k ≤ 1152921504606846976) : ∃ a' k', laws_markFindS a k = some (a', k') ∧ laws_heldFindS a' k = some k' ∧ k ≤ k' ∧ k' ≤ k + 16777216 := by
  have hW : ((a.length : Nat) : Int) * 8 ≤ 2097152 * 8 := few (by omega) (by omega)
  obtain ⟨a', k', e1, e2, e3, e4⟩ := mark_run (sm := laws_markFindS_l2) (sh := fun a => laws_heldFindS_l2 a) (W := 8) (B := 2305843009213693952) (M := 2097152) (P := mkP_Find) (by omega) (fun a k i hi hM hx h0 h1 => by
    refine ⟨(⟨⟨k, k + 1, k + 1 + 1, k + 1 + 1 + 1, k + 1 + 1 + 1 + 1⟩, k + 1 + 1 + 1 + 1 + 1, k + 1 + 1 + 1 + 1 + 1 + 1, k + 1 + 1 + 1 + 1 + 1 + 1 + 1⟩ : Find), k + 1 + 1 + 1 + 1 + 1 + 1 + 1 + 1, ?_, by omega, by omega, fun b hb hy => ?_⟩
    · simp (disch := omega) only [laws_markFindS_l2, lt_ln hi, inb_n hi, gt_n hi, Int.toNat_natCast, w64_in, cond_true, cond_false, need_true, Option.bind_some, Int.natCast_succ]
    · simp (disch := omega) only [laws_heldFindS_l2, lt_ln hb, inb_n hb, gt_n hb, hy, w64_in, eq_self, decide_true, Bool.not_true, cond_true, cond_false, need_true, Option.bind_some, Int.natCast_succ]
    )
    (fun a k => by simp only [laws_markFindS_l2, ge_ln (Nat.le_refl _), cond_false])
    (fun a k => by simp only [laws_heldFindS_l2, ge_ln (Nat.le_refl _), cond_false]) a k h hP h0 (by omega)
  exact ⟨a', k', by unfold laws_markFindS; rw [e1]; rfl, by unfold laws_heldFindS; rw [e2]; rfl, e3, by omega⟩
def mkP_Mark (x : Mark) : Prop := True
theorem mk_MarkS (a : List Mark) (k : Int) (h : a.length ≤ 2097152) (hP : ∀ x ∈ a, mkP_Mark x) (h0 : 0 ≤ k) (hk : k ≤ 1152921504606846976) : ∃ a' k', laws_markMarkS a k = some (a', k') ∧ laws_heldMarkS a' k = some k' ∧ k ≤ k' ∧ k' ≤ k + 4194304 := by
  have hW : ((a.length : Nat) : Int) * 2 ≤ 2097152 * 2 := few (by omega) (by omega)
  obtain ⟨a', k', e1, e2, e3, e4⟩ := mark_run (sm := laws_markMarkS_l2) (sh := fun a => laws_heldMarkS_l2 a) (W := 2) (B := 2305843009213693952) (M := 2097152) (P := mkP_Mark) (by omega) (fun a k i hi hM hx h0 h1 => by
    refine ⟨(⟨k, k + 1⟩ : Mark), k + 1 + 1, ?_, by omega, by omega, fun b hb hy => ?_⟩
    · simp (disch := omega) only [laws_markMarkS_l2, lt_ln hi, inb_n hi, gt_n hi, Int.toNat_natCast, w64_in, cond_true, cond_false, need_true, Option.bind_some, Int.natCast_succ]
    · simp (disch := omega) only [laws_heldMarkS_l2, lt_ln hb, inb_n hb, gt_n hb, hy, w64_in, eq_self, decide_true, Bool.not_true, cond_true, cond_false, need_true, Option.bind_some, Int.natCast_succ]
    )
    (fun a k => by simp only [laws_markMarkS_l2, ge_ln (Nat.le_refl _), cond_false])
    (fun a k => by simp only [laws_heldMarkS_l2, ge_ln (Nat.le_refl _), cond_false]) a k h hP h0 (by omega)
  exact ⟨a', k', by unfold laws_markMarkS; rw [e1]; rfl, by unfold laws_heldMarkS; rw [e2]; rfl, e3, by omega⟩
def mkP_Secret (x : Secret) : Prop := x.Marks.length ≤ 2097152
theorem mk_SecretS (a : List Secret) (k : Int) (h : a.length ≤ 2097152) (hP : ∀ x ∈ a, mkP_Secret x) (h0 : 0 ≤ k) (hk : k ≤ 288230376151711744) : ∃ a' k', laws_markSecretS a k = some (a', k') ∧ laws_heldSecretS a' k = some k' ∧ k ≤ k' ∧ k' ≤ k + 8796097216512 := by
  have hW : ((a.length : Nat) : Int) * 4194306 ≤ 2097152 * 4194306 := few (by omega) (by omega)
  obtain ⟨a', k', e1, e2, e3, e4⟩ := mark_run (sm := laws_markSecretS_l2) (sh := fun a => laws_heldSecretS_l2 a) (W := 4194306) (B := 576460752303423488) (M := 2097152) (P := mkP_Secret) (by omega) (fun a k i hi hM hx h0 h1 => by
    have l1 : _ := hx
    obtain ⟨n1, k1, f1, g1, u1, v1⟩ := mk_MarkS (a[i]).Marks (k + 1) l1 (fun y hy => trivial) (by omega) (by omega)
    refine ⟨(⟨k, n1, k1⟩ : Secret), k1 + 1, ?_, by omega, by omega, fun b hb hy => ?_⟩
    · simp (disch := omega) only [laws_markSecretS_l2, lt_ln hi, inb_n hi, gt_n hi, Int.toNat_natCast, w64_in, cond_true, cond_false, need_true, Option.bind_some, Int.natCast_succ, f1]
    · simp (disch := omega) only [laws_heldSecretS_l2, lt_ln hb, inb_n hb, gt_n hb, hy, w64_in, eq_self, decide_true, Bool.not_true, cond_true, cond_false, need_true, Option.bind_some, Int.natCast_succ, g1, show decide (k1 < 0) = false from decide_eq_false (by omega)]
    )
    (fun a k => by simp only [laws_markSecretS_l2, ge_ln (Nat.le_refl _), cond_false])
    (fun a k => by simp only [laws_heldSecretS_l2, ge_ln (Nat.le_refl _), cond_false]) a k h hP h0 (by omega)
  exact ⟨a', k', by unfold laws_markSecretS; rw [e1]; rfl, by unfold laws_heldSecretS; rw [e2]; rfl, e3, by omega⟩
def mkP_Slot (x : Slot) : Prop := True
theorem mk_SlotS (a : List Slot) (k : Int) (h : a.length ≤ 2097152) (hP : ∀ x ∈ a, mkP_Slot x) (h0 : 0 ≤ k) (hk : k ≤ 1152921504606846976) : ∃ a' k', laws_markSlotS a k = some (a', k') ∧ laws_heldSlotS a' k = some k' ∧ k ≤ k' ∧ k' ≤ k + 6291456 := by
  have hW : ((a.length : Nat) : Int) * 3 ≤ 2097152 * 3 := few (by omega) (by omega)
  obtain ⟨a', k', e1, e2, e3, e4⟩ := mark_run (sm := laws_markSlotS_l2) (sh := fun a => laws_heldSlotS_l2 a) (W := 3) (B := 2305843009213693952) (M := 2097152) (P := mkP_Slot) (by omega) (fun a k i hi hM hx h0 h1 => by
    refine ⟨(⟨k, k + 1, k + 1 + 1⟩ : Slot), k + 1 + 1 + 1, ?_, by omega, by omega, fun b hb hy => ?_⟩
    · simp (disch := omega) only [laws_markSlotS_l2, lt_ln hi, inb_n hi, gt_n hi, Int.toNat_natCast, w64_in, cond_true, cond_false, need_true, Option.bind_some, Int.natCast_succ]
    · simp (disch := omega) only [laws_heldSlotS_l2, lt_ln hb, inb_n hb, gt_n hb, hy, w64_in, eq_self, decide_true, Bool.not_true, cond_true, cond_false, need_true, Option.bind_some, Int.natCast_succ]
    )
    (fun a k => by simp only [laws_markSlotS_l2, ge_ln (Nat.le_refl _), cond_false])
    (fun a k => by simp only [laws_heldSlotS_l2, ge_ln (Nat.le_refl _), cond_false]) a k h hP h0 (by omega)
  exact ⟨a', k', by unfold laws_markSlotS; rw [e1]; rfl, by unfold laws_heldSlotS; rw [e2]; rfl, e3, by omega⟩
def mkP_Claim (x : Claim) : Prop := True
theorem mk_ClaimS (a : List Claim) (k : Int) (h : a.length ≤ 2097152) (hP : ∀ x ∈ a, mkP_Claim x) (h0 : 0 ≤ k) (hk : k ≤ 1152921504606846976) : ∃ a' k', laws_markClaimS a k = some (a', k') ∧ laws_heldClaimS a' k = some k' ∧ k ≤ k' ∧ k' ≤ k + 10485760 := by
  have hW : ((a.length : Nat) : Int) * 5 ≤ 2097152 * 5 := few (by omega) (by omega)
  obtain ⟨a', k', e1, e2, e3, e4⟩ := mark_run (sm := laws_markClaimS_l2) (sh := fun a => laws_heldClaimS_l2 a) (W := 5) (B := 2305843009213693952) (M := 2097152) (P := mkP_Claim) (by omega) (fun a k i hi hM hx h0 h1 => by
    refine ⟨(⟨k, k + 1, k + 1 + 1, k + 1 + 1 + 1, k + 1 + 1 + 1 + 1⟩ : Claim), k + 1 + 1 + 1 + 1 + 1, ?_, by omega, by omega, fun b hb hy => ?_⟩
    · simp (disch := omega) only [laws_markClaimS_l2, lt_ln hi, inb_n hi, gt_n hi, Int.toNat_natCast, w64_in, cond_true, cond_false, need_true, Option.bind_some, Int.natCast_succ]
    · simp (disch := omega) only [laws_heldClaimS_l2, lt_ln hb, inb_n hb, gt_n hb, hy, w64_in, eq_self, decide_true, Bool.not_true, cond_true, cond_false, need_true, Option.bind_some, Int.natCast_succ]
    )
    (fun a k => by simp only [laws_markClaimS_l2, ge_ln (Nat.le_refl _), cond_false])
    (fun a k => by simp only [laws_heldClaimS_l2, ge_ln (Nat.le_refl _), cond_false]) a k h hP h0 (by omega)
  exact ⟨a', k', by unfold laws_markClaimS; rw [e1]; rfl, by unfold laws_heldClaimS; rw [e2]; rfl, e3, by omega⟩
def mkP_Trial (x : Trial) : Prop := True
theorem mk_TrialS (a : List Trial) (k : Int) (h : a.length ≤ 2097152) (hP : ∀ x ∈ a, mkP_Trial x) (h0 : 0 ≤ k) (hk : k ≤ 1152921504606846976) : ∃ a' k', laws_markTrialS a k = some (a', k') ∧ laws_heldTrialS a' k = some k' ∧ k ≤ k' ∧ k' ≤ k + 8388608 := by
  have hW : ((a.length : Nat) : Int) * 4 ≤ 2097152 * 4 := few (by omega) (by omega)
  obtain ⟨a', k', e1, e2, e3, e4⟩ := mark_run (sm := laws_markTrialS_l2) (sh := fun a => laws_heldTrialS_l2 a) (W := 4) (B := 2305843009213693952) (M := 2097152) (P := mkP_Trial) (by omega) (fun a k i hi hM hx h0 h1 => by
    refine ⟨(⟨k, k + 1, k + 1 + 1, k + 1 + 1 + 1⟩ : Trial), k + 1 + 1 + 1 + 1, ?_, by omega, by omega, fun b hb hy => ?_⟩
    · simp (disch := omega) only [laws_markTrialS_l2, lt_ln hi, inb_n hi, gt_n hi, Int.toNat_natCast, w64_in, cond_true, cond_false, need_true, Option.bind_some, Int.natCast_succ]
    · simp (disch := omega) only [laws_heldTrialS_l2, lt_ln hb, inb_n hb, gt_n hb, hy, w64_in, eq_self, decide_true, Bool.not_true, cond_true, cond_false, need_true, Option.bind_some, Int.natCast_succ]
    )
    (fun a k => by simp only [laws_markTrialS_l2, ge_ln (Nat.le_refl _), cond_false])
    (fun a k => by simp only [laws_heldTrialS_l2, ge_ln (Nat.le_refl _), cond_false]) a k h hP h0 (by omega)
  exact ⟨a', k', by unfold laws_markTrialS; rw [e1]; rfl, by unfold laws_heldTrialS; rw [e2]; rfl, e3, by omega⟩
def mkP_Hand (x : Hand) : Prop := True
theorem mk_HandS (a : List Hand) (k : Int) (h : a.length ≤ 2097152) (hP : ∀ x ∈ a, mkP_Hand x) (h0 : 0 ≤ k) (hk : k ≤ 1152921504606846976) : ∃ a' k', laws_markHandS a k = some (a', k') ∧ laws_heldHandS a' k = some k' ∧ k ≤ k' ∧ k' ≤ k + 10485760 := by
  have hW : ((a.length : Nat) : Int) * 5 ≤ 2097152 * 5 := few (by omega) (by omega)
  obtain ⟨a', k', e1, e2, e3, e4⟩ := mark_run (sm := laws_markHandS_l2) (sh := fun a => laws_heldHandS_l2 a) (W := 5) (B := 2305843009213693952) (M := 2097152) (P := mkP_Hand) (by omega) (fun a k i hi hM hx h0 h1 => by
    refine ⟨(⟨k, k + 1, k + 1 + 1, k + 1 + 1 + 1, k + 1 + 1 + 1 + 1⟩ : Hand), k + 1 + 1 + 1 + 1 + 1, ?_, by omega, by omega, fun b hb hy => ?_⟩
    · simp (disch := omega) only [laws_markHandS_l2, lt_ln hi, inb_n hi, gt_n hi, Int.toNat_natCast, w64_in, cond_true, cond_false, need_true, Option.bind_some, Int.natCast_succ]
    · simp (disch := omega) only [laws_heldHandS_l2, lt_ln hb, inb_n hb, gt_n hb, hy, w64_in, eq_self, decide_true, Bool.not_true, cond_true, cond_false, need_true, Option.bind_some, Int.natCast_succ]
    )
    (fun a k => by simp only [laws_markHandS_l2, ge_ln (Nat.le_refl _), cond_false])
    (fun a k => by simp only [laws_heldHandS_l2, ge_ln (Nat.le_refl _), cond_false]) a k h hP h0 (by omega)
  exact ⟨a', k', by unfold laws_markHandS; rw [e1]; rfl, by unfold laws_heldHandS; rw [e2]; rfl, e3, by omega⟩
def mkP_Entry (x : Entry) : Prop := True
theorem mk_EntryS (a : List Entry) (k : Int) (h : a.length ≤ 2097152) (hP : ∀ x ∈ a, mkP_Entry x) (h0 : 0 ≤ k) (hk : k ≤ 1152921504606846976) : ∃ a' k', laws_markEntryS a k = some (a', k') ∧ laws_heldEntryS a' k = some k' ∧ k ≤ k' ∧ k' ≤ k + 8388608 := by
  have hW : ((a.length : Nat) : Int) * 4 ≤ 2097152 * 4 := few (by omega) (by omega)
  obtain ⟨a', k', e1, e2, e3, e4⟩ := mark_run (sm := laws_markEntryS_l2) (sh := fun a => laws_heldEntryS_l2 a) (W := 4) (B := 2305843009213693952) (M := 2097152) (P := mkP_Entry) (by omega) (fun a k i hi hM hx h0 h1 => by
    refine ⟨(⟨k, k + 1, k + 1 + 1, k + 1 + 1 + 1⟩ : Entry), k + 1 + 1 + 1 + 1, ?_, by omega, by omega, fun b hb hy => ?_⟩
    · simp (disch := omega) only [laws_markEntryS_l2, lt_ln hi, inb_n hi, gt_n hi, Int.toNat_natCast, w64_in, cond_true, cond_false, need_true, Option.bind_some, Int.natCast_succ]
    · simp (disch := omega) only [laws_heldEntryS_l2, lt_ln hb, inb_n hb, gt_n hb, hy, w64_in, eq_self, decide_true, Bool.not_true, cond_true, cond_false, need_true, Option.bind_some, Int.natCast_succ]
    )
    (fun a k => by simp only [laws_markEntryS_l2, ge_ln (Nat.le_refl _), cond_false])
    (fun a k => by simp only [laws_heldEntryS_l2, ge_ln (Nat.le_refl _), cond_false]) a k h hP h0 (by omega)
  exact ⟨a', k', by unfold laws_markEntryS; rw [e1]; rfl, by unfold laws_heldEntryS; rw [e2]; rfl, e3, by omega⟩
theorem mk_House (h : House) (k : Int) (l1 : h.Finds.length ≤ 2097152) (l2 : h.Secrets.length ≤ 2097152) (p2 : ∀ x ∈ h.Secrets, mkP_Secret x) (l3 : h.Slots.length ≤ 2097152) (l4 : h.Claims.length ≤ 2097152) (l5 : h.Trials.length ≤ 2097152) (l6 : h.Chain.length ≤ 2097152) (l7 : h.Book.length ≤ 2097152) (h0 : 0 ≤ k) (hk : k ≤ 1000000) : ∃ h' k', laws_markHouse h k = some (h', k') ∧ laws_heldHouse h' k = some k' ∧ k ≤ k' ∧ k' ≤ k + 8796158033920 := by
  obtain ⟨n1, k1, f1, g1, u1, v1⟩ := mk_FindS h.Finds (k) l1 (fun x _ => trivial) (by omega) (by omega)
  obtain ⟨n2, k2, f2, g2, u2, v2⟩ := mk_SecretS h.Secrets (k1) l2 (p2) (by omega) (by omega)
  obtain ⟨n3, k3, f3, g3, u3, v3⟩ := mk_SlotS h.Slots (k2) l3 (fun x _ => trivial) (by omega) (by omega)
  obtain ⟨n4, k4, f4, g4, u4, v4⟩ := mk_ClaimS h.Claims (k3) l4 (fun x _ => trivial) (by omega) (by omega)
  obtain ⟨n5, k5, f5, g5, u5, v5⟩ := mk_TrialS h.Trials (k4) l5 (fun x _ => trivial) (by omega) (by omega)
  obtain ⟨n6, k6, f6, g6, u6, v6⟩ := mk_HandS h.Chain (k5) l6 (fun x _ => trivial) (by omega) (by omega)
  obtain ⟨n7, k7, f7, g7, u7, v7⟩ := mk_EntryS h.Book (k6) l7 (fun x _ => trivial) (by omega) (by omega)
  refine ⟨(⟨h.No, n1, n2, n3, n4, n5, n6, n7, h.Now⟩ : House), k7, ?_, ?_, by omega, by omega⟩
  · simp only [laws_markHouse, f1, f2, f3, f4, f5, f6, f7, Option.bind_some]
  · simp only [laws_heldHouse, g1, show decide (k1 < 0) = false from decide_eq_false (by omega), g2, show decide (k2 < 0) = false from decide_eq_false (by omega), g3, show decide (k3 < 0) = false from decide_eq_false (by omega), g4, show decide (k4 < 0) = false from decide_eq_false (by omega), g5, show decide (k5 < 0) = false from decide_eq_false (by omega), g6, show decide (k6 < 0) = false from decide_eq_false (by omega), g7, show decide (k7 < 0) = false from decide_eq_false (by omega), Option.bind_some, cond_false]
end Go.Proofs.YtcdffihcfeajfaaGreat
