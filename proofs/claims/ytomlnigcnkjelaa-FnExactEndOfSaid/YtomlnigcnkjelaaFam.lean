/- The laws' own helpers, plainly: a copy is what it copies, and is equal to itself. No condition. -/
import Derived.Test.YtomlnigcnkjelaaFn
import Derived.Test.YtomlnigcnkjelaaPl
namespace Go.Proofs.Ytomlnigcnkjelaa
open Go
set_option linter.unusedVariables false
set_option linter.unusedSimpArgs false
set_option linter.defProp false
set_option maxRecDepth 100000
theorem sz_small {n : Nat} (h0 : (n : Int) ≤ 9223372036854775807) (h : decide (w64 (1048576 - (n : Int)) < 0) = false) : n ≤ 1048576 := by
  have := of_decide_eq_false h
  rw [w64_in (by omega) (by omega)] at this; omega
theorem mkB_ok {n b : Nat} (h : n ≤ 1048576) (hb : b ≤ 1024) : mkB (n : Int) b = true := by
  unfold mkB
  have h1 : n * b ≤ 1048576 * 1024 := Nat.mul_le_mul h hb
  have h2 := Int.ofNat_le.2 h1
  rw [Int.natCast_mul] at h2
  have h3 : (n : Int) * (b : Int) ≤ 140737488355328 := by omega
  simp only [h3, Int.natCast_nonneg, decide_true, Bool.and_self]
theorem rm_ok {n b : Nat} (h : n ≤ 2000000) (hb : b ≤ 1024) : rm n b = true := by
  unfold rm
  have h1 : n * b ≤ 2000000 * 1024 := Nat.mul_le_mul h hb
  have h3 : n * b ≤ 140737488355328 := by omega
  simp only [h3, decide_true]
theorem toHand_id (a : Hand) : laws_toHand a = some a := by first | rfl | (simp only [laws_toHand, Option.bind_some]; done) | (simp only [laws_toHand, Option.bind_some]; rfl)
theorem toHandS_id (a : List Hand) (h : a.length ≤ 1048576) : laws_toHandS a = some a := by
  have hr := run_fill a (fun x => x) (⟨0, 0, 0, 0, 0⟩ : Hand) (step := laws_toHandS_l3 a) (by omega) (fun i out hi ho => by
    simp only [laws_toHandS_l3, lt_ln hi, inb_n hi, gt_n hi, toHand_id, inb_n (show i < out.length by omega), Int.toNat_natCast, w64_n (show (i : Int) < 9223372036854775807 by omega), cond_true, need_true, Option.bind_some])
    (fun out => by simp only [laws_toHandS_l3, ge_ln (Nat.le_refl _), cond_false])
  unfold laws_toHandS
  rw [ln_eq, mkB_ok h (by omega), Int.toNat_natCast]
  simp only [need_true, hr, List.map_id', Option.bind_some]
theorem eqHand_refl (a : Hand) : laws_eqHand a a = some true := by simp [laws_eqHand]
theorem eqHandS_refl (a : List Hand) (h : a.length ≤ 1048576) : laws_eqHandS a a = some true := by
  have hr := run_loop a (step := laws_eqHandS_l4 a a) (fun i (_ : Unit) => (i : Int)) (fun _ _ _ => some (.inl ())) (fun _ => some (.brk ())) ()
    (fun i s hi => by simp only [laws_eqHandS_l4, lt_ln hi, inb_n hi, gt_n hi, eqHand_refl, w64_n (show (i : Int) < 9223372036854775807 by omega), cond_true, cond_false, need_true, Option.bind_some, Bool.not_true, Option.map_some, Sum.map_inl, decide_true])
    (fun s => by simp only [laws_eqHandS_l4, ge_ln (Nat.le_refl _), cond_false, Option.map_some])
  rw [loopI_fold (g := fun _ _ => ()) a 0 () (fun _ _ _ _ => rfl)] at hr
  unfold laws_eqHandS
  simp only [decide_true, Bool.not_true, cond_false]
  rw [show ((0 : Int)) = ((0 : Nat) : Int) from rfl, hr]
  rfl
theorem toThing_id (a : Thing) : laws_toThing a = some a := by first | rfl | (simp only [laws_toThing, Option.bind_some]; done) | (simp only [laws_toThing, Option.bind_some]; rfl)
theorem toFind_id (a : Find) : laws_toFind a = some a := by first | rfl | (simp only [laws_toFind, toThing_id, Option.bind_some]; done) | (simp only [laws_toFind, toThing_id, Option.bind_some]; rfl)
theorem toFindS_id (a : List Find) (h : a.length ≤ 1048576) : laws_toFindS a = some a := by
  have hr := run_fill a (fun x => x) (⟨⟨0, 0, 0, 0, 0⟩, 0, 0, 0⟩ : Find) (step := laws_toFindS_l3 a) (by omega) (fun i out hi ho => by
    simp only [laws_toFindS_l3, lt_ln hi, inb_n hi, gt_n hi, toFind_id, inb_n (show i < out.length by omega), Int.toNat_natCast, w64_n (show (i : Int) < 9223372036854775807 by omega), cond_true, need_true, Option.bind_some])
    (fun out => by simp only [laws_toFindS_l3, ge_ln (Nat.le_refl _), cond_false])
  unfold laws_toFindS
  rw [ln_eq, mkB_ok h (by omega), Int.toNat_natCast]
  simp only [need_true, hr, List.map_id', Option.bind_some]
theorem eqThing_refl (a : Thing) : laws_eqThing a a = some true := by simp [laws_eqThing]
theorem eqFind_refl (a : Find) : laws_eqFind a a = some true := by simp [laws_eqFind, eqThing_refl]
theorem eqFindS_refl (a : List Find) (h : a.length ≤ 1048576) : laws_eqFindS a a = some true := by
  have hr := run_loop a (step := laws_eqFindS_l4 a a) (fun i (_ : Unit) => (i : Int)) (fun _ _ _ => some (.inl ())) (fun _ => some (.brk ())) ()
    (fun i s hi => by simp only [laws_eqFindS_l4, lt_ln hi, inb_n hi, gt_n hi, eqFind_refl, w64_n (show (i : Int) < 9223372036854775807 by omega), cond_true, cond_false, need_true, Option.bind_some, Bool.not_true, Option.map_some, Sum.map_inl, decide_true])
    (fun s => by simp only [laws_eqFindS_l4, ge_ln (Nat.le_refl _), cond_false, Option.map_some])
  rw [loopI_fold (g := fun _ _ => ()) a 0 () (fun _ _ _ _ => rfl)] at hr
  unfold laws_eqFindS
  simp only [decide_true, Bool.not_true, cond_false]
  rw [show ((0 : Int)) = ((0 : Nat) : Int) from rfl, hr]
  rfl
theorem toMark_id (a : Mark) : laws_toMark a = some a := by first | rfl | (simp only [laws_toMark, Option.bind_some]; done) | (simp only [laws_toMark, Option.bind_some]; rfl)
theorem toMarkS_id (a : List Mark) (h : a.length ≤ 1048576) : laws_toMarkS a = some a := by
  have hr := run_fill a (fun x => x) (⟨0, 0⟩ : Mark) (step := laws_toMarkS_l3 a) (by omega) (fun i out hi ho => by
    simp only [laws_toMarkS_l3, lt_ln hi, inb_n hi, gt_n hi, toMark_id, inb_n (show i < out.length by omega), Int.toNat_natCast, w64_n (show (i : Int) < 9223372036854775807 by omega), cond_true, need_true, Option.bind_some])
    (fun out => by simp only [laws_toMarkS_l3, ge_ln (Nat.le_refl _), cond_false])
  unfold laws_toMarkS
  rw [ln_eq, mkB_ok h (by omega), Int.toNat_natCast]
  simp only [need_true, hr, List.map_id', Option.bind_some]
theorem toBid_id (a : Bid) : laws_toBid a = some a := by first | rfl | (simp only [laws_toBid, Option.bind_some]; done) | (simp only [laws_toBid, Option.bind_some]; rfl)
theorem toBidS_id (a : List Bid) (h : a.length ≤ 1048576) : laws_toBidS a = some a := by
  have hr := run_fill a (fun x => x) (⟨0, 0, 0⟩ : Bid) (step := laws_toBidS_l3 a) (by omega) (fun i out hi ho => by
    simp only [laws_toBidS_l3, lt_ln hi, inb_n hi, gt_n hi, toBid_id, inb_n (show i < out.length by omega), Int.toNat_natCast, w64_n (show (i : Int) < 9223372036854775807 by omega), cond_true, need_true, Option.bind_some])
    (fun out => by simp only [laws_toBidS_l3, ge_ln (Nat.le_refl _), cond_false])
  unfold laws_toBidS
  rw [ln_eq, mkB_ok h (by omega), Int.toNat_natCast]
  simp only [need_true, hr, List.map_id', Option.bind_some]
theorem eqMark_refl (a : Mark) : laws_eqMark a a = some true := by simp [laws_eqMark]
theorem eqMarkS_refl (a : List Mark) (h : a.length ≤ 1048576) : laws_eqMarkS a a = some true := by
  have hr := run_loop a (step := laws_eqMarkS_l4 a a) (fun i (_ : Unit) => (i : Int)) (fun _ _ _ => some (.inl ())) (fun _ => some (.brk ())) ()
    (fun i s hi => by simp only [laws_eqMarkS_l4, lt_ln hi, inb_n hi, gt_n hi, eqMark_refl, w64_n (show (i : Int) < 9223372036854775807 by omega), cond_true, cond_false, need_true, Option.bind_some, Bool.not_true, Option.map_some, Sum.map_inl, decide_true])
    (fun s => by simp only [laws_eqMarkS_l4, ge_ln (Nat.le_refl _), cond_false, Option.map_some])
  rw [loopI_fold (g := fun _ _ => ()) a 0 () (fun _ _ _ _ => rfl)] at hr
  unfold laws_eqMarkS
  simp only [decide_true, Bool.not_true, cond_false]
  rw [show ((0 : Int)) = ((0 : Nat) : Int) from rfl, hr]
  rfl
theorem eqBid_refl (a : Bid) : laws_eqBid a a = some true := by simp [laws_eqBid]
theorem eqBidS_refl (a : List Bid) (h : a.length ≤ 1048576) : laws_eqBidS a a = some true := by
  have hr := run_loop a (step := laws_eqBidS_l4 a a) (fun i (_ : Unit) => (i : Int)) (fun _ _ _ => some (.inl ())) (fun _ => some (.brk ())) ()
    (fun i s hi => by simp only [laws_eqBidS_l4, lt_ln hi, inb_n hi, gt_n hi, eqBid_refl, w64_n (show (i : Int) < 9223372036854775807 by omega), cond_true, cond_false, need_true, Option.bind_some, Bool.not_true, Option.map_some, Sum.map_inl, decide_true])
    (fun s => by simp only [laws_eqBidS_l4, ge_ln (Nat.le_refl _), cond_false, Option.map_some])
  rw [loopI_fold (g := fun _ _ => ()) a 0 () (fun _ _ _ _ => rfl)] at hr
  unfold laws_eqBidS
  simp only [decide_true, Bool.not_true, cond_false]
  rw [show ((0 : Int)) = ((0 : Nat) : Int) from rfl, hr]
  rfl
end Go.Proofs.Ytomlnigcnkjelaa
