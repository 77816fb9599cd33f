/- The marks of the laws, plainly: what is marked is found to hold the marks. No condition but the length. -/
import Derived.Test.YtcpelionmmnogaaFn
import Derived.Test.YtcpelionmmnogaaPyMk0
namespace Go.Proofs.Ytcpelionmmnogaa
open Go
set_option linter.unusedVariables false
set_option linter.unusedSimpArgs false
set_option linter.defProp false
set_option maxRecDepth 100000
def mkP_Find (x : Find) : Prop := True
theorem mk_FindS (a : List Find) (k : Int) (h : a.length ≤ 2097152) (hP : ∀ x ∈ a, mkP_Find x) (h0 : 0 ≤ k) (hk : k ≤ 1152921504606846976) : ∃ a' k', laws_markFindS a k = some (a', k') ∧ k ≤ k' ∧ k' ≤ k + 16777216 := by
  have hW : ((a.length : Nat) : Int) * 8 ≤ 2097152 * 8 := few (by omega) (by omega)
  obtain ⟨a', k', e1, e3, e4⟩ := mark_run0 (sm := laws_markFindS_l2) (W := 8) (B := 2305843009213693952) (M := 2097152) (P := mkP_Find) (by omega) (fun a k i hi hM hx h0 h1 => by
    refine ⟨(⟨⟨k, k + 1, k + 1 + 1, k + 1 + 1 + 1, k + 1 + 1 + 1 + 1⟩, k + 1 + 1 + 1 + 1 + 1, k + 1 + 1 + 1 + 1 + 1 + 1, k + 1 + 1 + 1 + 1 + 1 + 1 + 1⟩ : Find), k + 1 + 1 + 1 + 1 + 1 + 1 + 1 + 1, ?_, by omega, by omega⟩
    · simp (disch := omega) only [laws_markFindS_l2, lt_ln hi, inb_n hi, gt_n hi, Int.toNat_natCast, w64_in, cond_true, cond_false, need_true, Option.bind_some, Int.natCast_succ]
    )
    (fun a k => by simp only [laws_markFindS_l2, ge_ln (Nat.le_refl _), cond_false]) a k h hP h0 (by omega)
  exact ⟨a', k', by unfold laws_markFindS; rw [e1]; rfl, e3, by omega⟩
def mkP_Mark (x : Mark) : Prop := True
theorem mk_MarkS (a : List Mark) (k : Int) (h : a.length ≤ 2097152) (hP : ∀ x ∈ a, mkP_Mark x) (h0 : 0 ≤ k) (hk : k ≤ 1152921504606846976) : ∃ a' k', laws_markMarkS a k = some (a', k') ∧ laws_heldMarkS a' k = some k' ∧ k ≤ k' ∧ k' ≤ k + 4194304 := by
  have hW : ((a.length : Nat) : Int) * 2 ≤ 2097152 * 2 := few (by omega) (by omega)
  obtain ⟨a', k', e1, e2, e3, e4⟩ := mark_run (sm := laws_markMarkS_l2) (sh := fun a => laws_heldMarkS_l2 a) (W := 2) (B := 2305843009213693952) (M := 2097152) (P := mkP_Mark) (by omega) (fun a k i hi hM hx h0 h1 => by
    refine ⟨(⟨k, k + 1⟩ : Mark), k + 1 + 1, ?_, by omega, by omega, fun b hb hy => ?_⟩
    · simp (disch := omega) only [laws_markMarkS_l2, lt_ln hi, inb_n hi, gt_n hi, Int.toNat_natCast, w64_in, cond_true, cond_false, need_true, Option.bind_some, Int.natCast_succ]
    · simp (disch := omega) only [laws_heldMarkS_l2, lt_ln hb, inb_n hb, gt_n hb, hy, w64_in, eq_self, decide_true, Bool.not_true, cond_true, cond_false, need_true, Option.bind_some, Int.natCast_succ]
    )
    (fun a k => by simp only [laws_markMarkS_l2, ge_ln (Nat.le_refl _), cond_false])
    (fun a k => by simp only [laws_heldMarkS_l2, ge_ln (Nat.le_refl _), cond_false]) a k h hP h0 (by omega)
  exact ⟨a', k', by unfold laws_markMarkS; rw [e1]; rfl, by unfold laws_heldMarkS; rw [e2]; rfl, e3, by omega⟩
def mkP_Bid (x : Bid) : Prop := True
theorem mk_BidS (a : List Bid) (k : Int) (h : a.length ≤ 2097152) (hP : ∀ x ∈ a, mkP_Bid x) (h0 : 0 ≤ k) (hk : k ≤ 1152921504606846976) : ∃ a' k', laws_markBidS a k = some (a', k') ∧ laws_heldBidS a' k = some k' ∧ k ≤ k' ∧ k' ≤ k + 6291456 := by
  have hW : ((a.length : Nat) : Int) * 3 ≤ 2097152 * 3 := few (by omega) (by omega)
  obtain ⟨a', k', e1, e2, e3, e4⟩ := mark_run (sm := laws_markBidS_l2) (sh := fun a => laws_heldBidS_l2 a) (W := 3) (B := 2305843009213693952) (M := 2097152) (P := mkP_Bid) (by omega) (fun a k i hi hM hx h0 h1 => by
    refine ⟨(⟨k, k + 1, k + 1 + 1⟩ : Bid), k + 1 + 1 + 1, ?_, by omega, by omega, fun b hb hy => ?_⟩
    · simp (disch := omega) only [laws_markBidS_l2, lt_ln hi, inb_n hi, gt_n hi, Int.toNat_natCast, w64_in, cond_true, cond_false, need_true, Option.bind_some, Int.natCast_succ]
    · simp (disch := omega) only [laws_heldBidS_l2, lt_ln hb, inb_n hb, gt_n hb, hy, w64_in, eq_self, decide_true, Bool.not_true, cond_true, cond_false, need_true, Option.bind_some, Int.natCast_succ]
    )
    (fun a k => by simp only [laws_markBidS_l2, ge_ln (Nat.le_refl _), cond_false])
    (fun a k => by simp only [laws_heldBidS_l2, ge_ln (Nat.le_refl _), cond_false]) a k h hP h0 (by omega)
  exact ⟨a', k', by unfold laws_markBidS; rw [e1]; rfl, by unfold laws_heldBidS; rw [e2]; rfl, e3, by omega⟩
def mkP_Event (x : Event) : Prop := x.Marks.length ≤ 2097152 ∧ x.Bids.length ≤ 2097152
theorem mk_EventS (a : List Event) (k : Int) (h : a.length ≤ 2097152) (hP : ∀ x ∈ a, mkP_Event x) (h0 : 0 ≤ k) (hk : k ≤ 288230376151711744) : ∃ a' k', laws_markEventS a k = some (a', k') ∧ laws_heldEventS a' k = some k' ∧ k ≤ k' ∧ k' ≤ k + 21990257721344 := by
  have hW : ((a.length : Nat) : Int) * 10485772 ≤ 2097152 * 10485772 := few (by omega) (by omega)
  obtain ⟨a', k', e1, e2, e3, e4⟩ := mark_run (sm := laws_markEventS_l2) (sh := fun a => laws_heldEventS_l2 a) (W := 10485772) (B := 576460752303423488) (M := 2097152) (P := mkP_Event) (by omega) (fun a k i hi hM hx h0 h1 => by
    obtain ⟨l1, l2⟩ := hx
    obtain ⟨n1, k1, f1, g1, u1, v1⟩ := mk_MarkS (a[i]).Marks (k + 1 + 1 + 1 + 1 + 1 + 1 + 1 + 1 + 1) l1 (fun y hy => trivial) (by omega) (by omega)
    obtain ⟨n2, k2, f2, g2, u2, v2⟩ := mk_BidS (a[i]).Bids (k1 + 1 + 1 + 1) l2 (fun y hy => trivial) (by omega) (by omega)
    refine ⟨(⟨k, ⟨⟨k + 1, k + 1 + 1, k + 1 + 1 + 1, k + 1 + 1 + 1 + 1, k + 1 + 1 + 1 + 1 + 1⟩, k + 1 + 1 + 1 + 1 + 1 + 1, k + 1 + 1 + 1 + 1 + 1 + 1 + 1, k + 1 + 1 + 1 + 1 + 1 + 1 + 1 + 1⟩, n1, k1, k1 + 1, k1 + 1 + 1, n2⟩ : Event), k2, ?_, by omega, by omega, fun b hb hy => ?_⟩
    · simp (disch := omega) only [laws_markEventS_l2, lt_ln hi, inb_n hi, gt_n hi, Int.toNat_natCast, w64_in, cond_true, cond_false, need_true, Option.bind_some, Int.natCast_succ, f1, f2]
    · simp (disch := omega) only [laws_heldEventS_l2, lt_ln hb, inb_n hb, gt_n hb, hy, w64_in, eq_self, decide_true, Bool.not_true, cond_true, cond_false, need_true, Option.bind_some, Int.natCast_succ, g1, show decide (k1 < 0) = false from decide_eq_false (by omega), g2, show decide (k2 < 0) = false from decide_eq_false (by omega)]
    )
    (fun a k => by simp only [laws_markEventS_l2, ge_ln (Nat.le_refl _), cond_false])
    (fun a k => by simp only [laws_heldEventS_l2, ge_ln (Nat.le_refl _), cond_false]) a k h hP h0 (by omega)
  exact ⟨a', k', by unfold laws_markEventS; rw [e1]; rfl, by unfold laws_heldEventS; rw [e2]; rfl, e3, by omega⟩
end Go.Proofs.Ytcpelionmmnogaa
