/- The laws' own helpers, plainly: a copy is what it copies, and is equal to itself. No condition. -/
import Derived.Test.YtaajilepbclmfaaFn
import Derived.Test.YtaajilepbclmfaaPl
namespace Go.Proofs.Ytaajilepbclmfaa
open Go
set_option linter.unusedVariables false
set_option linter.unusedSimpArgs false
set_option linter.defProp false
set_option maxRecDepth 100000
theorem sz_small {n : Nat} (h0 : (n : Int) ≤ 9223372036854775807) (h : decide (w64 (1048576 - (n : Int)) < 0) = false) : n ≤ 1048576 := by
  have := of_decide_eq_false h
  rw [w64_in (by omega) (by omega)] at this; omega
theorem mkB_ok {n b : Nat} (h : n ≤ 1048576) (hb : b ≤ 1024) : mkB (n : Int) b = true := by
  unfold mkB
  have h1 : n * b ≤ 1048576 * 1024 := Nat.mul_le_mul h hb
  have h2 := Int.ofNat_le.2 h1
  rw [Int.natCast_mul] at h2
  have h3 : (n : Int) * (b : Int) ≤ 140737488355328 := by omega
  simp only [h3, Int.natCast_nonneg, decide_true, Bool.and_self]
theorem rm_ok {n b : Nat} (h : n ≤ 2000000) (hb : b ≤ 1024) : rm n b = true := by
  unfold rm
  have h1 : n * b ≤ 2000000 * 1024 := Nat.mul_le_mul h hb
  have h3 : n * b ≤ 140737488355328 := by omega
  simp only [h3, decide_true]
theorem toHand_id (a : Hand) : laws_toHand a = some a := by first | rfl | (simp only [laws_toHand, Option.bind_some]; done) | (simp only [laws_toHand, Option.bind_some]; rfl)
theorem toHandS_id (a : List Hand) (h : a.length ≤ 1048576) : laws_toHandS a = some a := by
  have hr := run_fill a (fun x => x) (⟨0, 0, 0, 0, 0⟩ : Hand) (step := laws_toHandS_l3 a) (by omega) (fun i out hi ho => by
    simp only [laws_toHandS_l3, lt_ln hi, inb_n hi, gt_n hi, toHand_id, inb_n (show i < out.length by omega), Int.toNat_natCast, w64_n (show (i : Int) < 9223372036854775807 by omega), cond_true, need_true, Option.bind_some])
    (fun out => by simp only [laws_toHandS_l3, ge_ln (Nat.le_refl _), cond_false])
  unfold laws_toHandS
  rw [ln_eq, mkB_ok h (by omega), Int.toNat_natCast]
  simp only [need_true, hr, List.map_id', Option.bind_some]
theorem eqHand_refl (a : Hand) : laws_eqHand a a = some true := by simp [laws_eqHand]
theorem eqHandS_refl (a : List Hand) (h : a.length ≤ 1048576) : laws_eqHandS a a = some true := by
  have hr := run_loop a (step := laws_eqHandS_l4 a a) (fun i (_ : Unit) => (i : Int)) (fun _ _ _ => some (.inl ())) (fun _ => some (.brk ())) ()
    (fun i s hi => by simp only [laws_eqHandS_l4, lt_ln hi, inb_n hi, gt_n hi, eqHand_refl, w64_n (show (i : Int) < 9223372036854775807 by omega), cond_true, cond_false, need_true, Option.bind_some, Bool.not_true, Option.map_some, Sum.map_inl, decide_true])
    (fun s => by simp only [laws_eqHandS_l4, ge_ln (Nat.le_refl _), cond_false, Option.map_some])
  rw [loopI_fold (g := fun _ _ => ()) a 0 () (fun _ _ _ _ => rfl)] at hr
  unfold laws_eqHandS
  simp only [decide_true, Bool.not_true, cond_false]
  rw [show ((0 : Int)) = ((0 : Nat) : Int) from rfl, hr]
  rfl
end Go.Proofs.Ytaajilepbclmfaa
