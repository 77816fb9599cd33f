/- The laws' own helpers, plainly: a copy is what it copies, and is equal to itself. No condition. -/
import Derived.Test.YtbbnecdpcblcfaaFn
import Derived.Test.YtbbnecdpcblcfaaPl
namespace Go.Proofs.Ytbbnecdpcblcfaa
open Go
set_option linter.unusedVariables false
set_option linter.unusedSimpArgs false
set_option linter.defProp false
set_option maxRecDepth 100000
theorem sz_small {n : Nat} (h0 : (n : Int) ≤ 9223372036854775807) (h : decide (w64 (1048576 - (n : Int)) < 0) = false) : n ≤ 1048576 := by
  have := of_decide_eq_false h
  rw [w64_in (by omega) (by omega)] at this; omega
theorem mkB_ok {n b : Nat} (h : n ≤ 1048576) (hb : b ≤ 1024) : mkB (n : Int) b = true := by
  unfold mkB
  have h1 : n * b ≤ 1048576 * 1024 := Nat.mul_le_mul h hb
  have h2 := Int.ofNat_le.2 h1
  rw [Int.natCast_mul] at h2
  have h3 : (n : Int) * (b : Int) ≤ 140737488355328 := by omega
  simp only [h3, Int.natCast_nonneg, decide_true, Bool.and_self]
theorem rm_ok {n b : Nat} (h : n ≤ 2000000) (hb : b ≤ 1024) : rm n b = true := by
  unfold rm
  have h1 : n * b ≤ 2000000 * 1024 := Nat.mul_le_mul h hb
  have h3 : n * b ≤ 140737488355328 := by omega
  simp only [h3, decide_true]
theorem eqSlot_refl (a : Slot) : laws_eqSlot a a = some true := by simp [laws_eqSlot]
theorem eqSlotS_refl (a : List Slot) (h : a.length ≤ 1048576) : laws_eqSlotS a a = some true := by
  have hr := run_loop a (step := laws_eqSlotS_l4 a a) (fun i (_ : Unit) => (i : Int)) (fun _ _ _ => some (.inl ())) (fun _ => some (.brk ())) ()
    (fun i s hi => by simp only [laws_eqSlotS_l4, lt_ln hi, inb_n hi, gt_n hi, eqSlot_refl, w64_n (show (i : Int) < 9223372036854775807 by omega), cond_true, cond_false, need_true, Option.bind_some, Bool.not_true, Option.map_some, Sum.map_inl, decide_true])
    (fun s => by simp only [laws_eqSlotS_l4, ge_ln (Nat.le_refl _), cond_false, Option.map_some])
  rw [loopI_fold (g := fun _ _ => ()) a 0 () (fun _ _ _ _ => rfl)] at hr
  unfold laws_eqSlotS
  simp only [decide_true, Bool.not_true, cond_false]
  rw [show ((0 : Int)) = ((0 : Nat) : Int) from rfl, hr]
  rfl
theorem toHit_id (a : Hit) : laws_toHit a = some a := by first | rfl | (simp only [laws_toHit, Option.bind_some]; done) | (simp only [laws_toHit, Option.bind_some]; rfl)
theorem toHitS_id (a : List Hit) (h : a.length ≤ 1048576) : laws_toHitS a = some a := by
  have hr := run_fill a (fun x => x) (⟨0, 0⟩ : Hit) (step := laws_toHitS_l3 a) (by omega) (fun i out hi ho => by
    simp only [laws_toHitS_l3, lt_ln hi, inb_n hi, gt_n hi, toHit_id, inb_n (show i < out.length by omega), Int.toNat_natCast, w64_n (show (i : Int) < 9223372036854775807 by omega), cond_true, need_true, Option.bind_some])
    (fun out => by simp only [laws_toHitS_l3, ge_ln (Nat.le_refl _), cond_false])
  unfold laws_toHitS
  rw [ln_eq, mkB_ok h (by omega), Int.toNat_natCast]
  simp only [need_true, hr, List.map_id', Option.bind_some]
theorem eqHit_refl (a : Hit) : laws_eqHit a a = some true := by simp [laws_eqHit]
theorem eqHitS_refl (a : List Hit) (h : a.length ≤ 1048576) : laws_eqHitS a a = some true := by
  have hr := run_loop a (step := laws_eqHitS_l4 a a) (fun i (_ : Unit) => (i : Int)) (fun _ _ _ => some (.inl ())) (fun _ => some (.brk ())) ()
    (fun i s hi => by simp only [laws_eqHitS_l4, lt_ln hi, inb_n hi, gt_n hi, eqHit_refl, w64_n (show (i : Int) < 9223372036854775807 by omega), cond_true, cond_false, need_true, Option.bind_some, Bool.not_true, Option.map_some, Sum.map_inl, decide_true])
    (fun s => by simp only [laws_eqHitS_l4, ge_ln (Nat.le_refl _), cond_false, Option.map_some])
  rw [loopI_fold (g := fun _ _ => ()) a 0 () (fun _ _ _ _ => rfl)] at hr
  unfold laws_eqHitS
  simp only [decide_true, Bool.not_true, cond_false]
  rw [show ((0 : Int)) = ((0 : Nat) : Int) from rfl, hr]
  rfl
theorem toClaim_id (a : Claim) : laws_toClaim a = some a := by first | rfl | (simp only [laws_toClaim, Option.bind_some]; done) | (simp only [laws_toClaim, Option.bind_some]; rfl)
theorem toClaimS_id (a : List Claim) (h : a.length ≤ 1048576) : laws_toClaimS a = some a := by
  have hr := run_fill a (fun x => x) (⟨0, 0, 0, 0, 0⟩ : Claim) (step := laws_toClaimS_l3 a) (by omega) (fun i out hi ho => by
    simp only [laws_toClaimS_l3, lt_ln hi, inb_n hi, gt_n hi, toClaim_id, inb_n (show i < out.length by omega), Int.toNat_natCast, w64_n (show (i : Int) < 9223372036854775807 by omega), cond_true, need_true, Option.bind_some])
    (fun out => by simp only [laws_toClaimS_l3, ge_ln (Nat.le_refl _), cond_false])
  unfold laws_toClaimS
  rw [ln_eq, mkB_ok h (by omega), Int.toNat_natCast]
  simp only [need_true, hr, List.map_id', Option.bind_some]
theorem eqClaim_refl (a : Claim) : laws_eqClaim a a = some true := by simp [laws_eqClaim]
theorem eqClaimS_refl (a : List Claim) (h : a.length ≤ 1048576) : laws_eqClaimS a a = some true := by
  have hr := run_loop a (step := laws_eqClaimS_l4 a a) (fun i (_ : Unit) => (i : Int)) (fun _ _ _ => some (.inl ())) (fun _ => some (.brk ())) ()
    (fun i s hi => by simp only [laws_eqClaimS_l4, lt_ln hi, inb_n hi, gt_n hi, eqClaim_refl, w64_n (show (i : Int) < 9223372036854775807 by omega), cond_true, cond_false, need_true, Option.bind_some, Bool.not_true, Option.map_some, Sum.map_inl, decide_true])
    (fun s => by simp only [laws_eqClaimS_l4, ge_ln (Nat.le_refl _), cond_false, Option.map_some])
  rw [loopI_fold (g := fun _ _ => ()) a 0 () (fun _ _ _ _ => rfl)] at hr
  unfold laws_eqClaimS
  simp only [decide_true, Bool.not_true, cond_false]
  rw [show ((0 : Int)) = ((0 : Nat) : Int) from rfl, hr]
  rfl
theorem toHand_id (a : Hand) : laws_toHand a = some a := by first | rfl | (simp only [laws_toHand, Option.bind_some]; done) | (simp only [laws_toHand, Option.bind_some]; rfl)
theorem toHandS_id (a : List Hand) (h : a.length ≤ 1048576) : laws_toHandS a = some a := by
  have hr := run_fill a (fun x => x) (⟨0, 0, 0, 0, 0⟩ : Hand) (step := laws_toHandS_l3 a) (by omega) (fun i out hi ho => by
    simp only [laws_toHandS_l3, lt_ln hi, inb_n hi, gt_n hi, toHand_id, inb_n (show i < out.length by omega), Int.toNat_natCast, w64_n (show (i : Int) < 9223372036854775807 by omega), cond_true, need_true, Option.bind_some])
    (fun out => by simp only [laws_toHandS_l3, ge_ln (Nat.le_refl _), cond_false])
  unfold laws_toHandS
  rw [ln_eq, mkB_ok h (by omega), Int.toNat_natCast]
  simp only [need_true, hr, List.map_id', Option.bind_some]
theorem eqHand_refl (a : Hand) : laws_eqHand a a = some true := by simp [laws_eqHand]
theorem eqHandS_refl (a : List Hand) (h : a.length ≤ 1048576) : laws_eqHandS a a = some true := by
  have hr := run_loop a (step := laws_eqHandS_l4 a a) (fun i (_ : Unit) => (i : Int)) (fun _ _ _ => some (.inl ())) (fun _ => some (.brk ())) ()
    (fun i s hi => by simp only [laws_eqHandS_l4, lt_ln hi, inb_n hi, gt_n hi, eqHand_refl, w64_n (show (i : Int) < 9223372036854775807 by omega), cond_true, cond_false, need_true, Option.bind_some, Bool.not_true, Option.map_some, Sum.map_inl, decide_true])
    (fun s => by simp only [laws_eqHandS_l4, ge_ln (Nat.le_refl _), cond_false, Option.map_some])
  rw [loopI_fold (g := fun _ _ => ()) a 0 () (fun _ _ _ _ => rfl)] at hr
  unfold laws_eqHandS
  simp only [decide_true, Bool.not_true, cond_false]
  rw [show ((0 : Int)) = ((0 : Nat) : Int) from rfl, hr]
  rfl
theorem toThing_id (a : Thing) : laws_toThing a = some a := by first | rfl | (simp only [laws_toThing, Option.bind_some]; done) | (simp only [laws_toThing, Option.bind_some]; rfl)
theorem toFind_id (a : Find) : laws_toFind a = some a := by first | rfl | (simp only [laws_toFind, toThing_id, Option.bind_some]; done) | (simp only [laws_toFind, toThing_id, Option.bind_some]; rfl)
theorem toFindS_id (a : List Find) (h : a.length ≤ 1048576) : laws_toFindS a = some a := by
  have hr := run_fill a (fun x => x) (⟨⟨0, 0, 0, 0, 0⟩, 0, 0, 0⟩ : Find) (step := laws_toFindS_l3 a) (by omega) (fun i out hi ho => by
    simp only [laws_toFindS_l3, lt_ln hi, inb_n hi, gt_n hi, toFind_id, inb_n (show i < out.length by omega), Int.toNat_natCast, w64_n (show (i : Int) < 9223372036854775807 by omega), cond_true, need_true, Option.bind_some])
    (fun out => by simp only [laws_toFindS_l3, ge_ln (Nat.le_refl _), cond_false])
  unfold laws_toFindS
  rw [ln_eq, mkB_ok h (by omega), Int.toNat_natCast]
  simp only [need_true, hr, List.map_id', Option.bind_some]
theorem eqThing_refl (a : Thing) : laws_eqThing a a = some true := by simp [laws_eqThing]
theorem eqFind_refl (a : Find) : laws_eqFind a a = some true := by simp [laws_eqFind, eqThing_refl]
theorem eqFindS_refl (a : List Find) (h : a.length ≤ 1048576) : laws_eqFindS a a = some true := by
  have hr := run_loop a (step := laws_eqFindS_l4 a a) (fun i (_ : Unit) => (i : Int)) (fun _ _ _ => some (.inl ())) (fun _ => some (.brk ())) ()
    (fun i s hi => by simp only [laws_eqFindS_l4, lt_ln hi, inb_n hi, gt_n hi, eqFind_refl, w64_n (show (i : Int) < 9223372036854775807 by omega), cond_true, cond_false, need_true, Option.bind_some, Bool.not_true, Option.map_some, Sum.map_inl, decide_true])
    (fun s => by simp only [laws_eqFindS_l4, ge_ln (Nat.le_refl _), cond_false, Option.map_some])
  rw [loopI_fold (g := fun _ _ => ()) a 0 () (fun _ _ _ _ => rfl)] at hr
  unfold laws_eqFindS
  simp only [decide_true, Bool.not_true, cond_false]
  rw [show ((0 : Int)) = ((0 : Nat) : Int) from rfl, hr]
  rfl
end Go.Proofs.Ytbbnecdpcblcfaa
