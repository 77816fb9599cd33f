/- The law FnExactCountKind of typed values. No condition. -/
import Derived.Test.YtbbnecdpcblcfaaFn
import Derived.Test.YtbbnecdpcblcfaaPl
namespace Go.Proofs.Ytbbnecdpcblcfaa
open Go
set_option linter.unusedVariables false
set_option linter.unusedSimpArgs false
theorem sz_small {n : Nat} (h0 : (n : Int) ≤ 9223372036854775807) (h : decide (w64 (1048576 - (n : Int)) < 0) = false) : n ≤ 1048576 := by
  have := of_decide_eq_false h
  rw [w64_in (by omega) (by omega)] at this; omega
theorem mkB_ok {n b : Nat} (h : n ≤ 1048576) (hb : b ≤ 1024) : mkB (n : Int) b = true := by
  unfold mkB
  have h1 : n * b ≤ 1048576 * 1024 := Nat.mul_le_mul h hb
  have h2 := Int.ofNat_le.2 h1
  rw [Int.natCast_mul] at h2
  have h3 : (n : Int) * (b : Int) ≤ 140737488355328 := by omega
  simp only [h3, Int.natCast_nonneg, decide_true, Bool.and_self]
theorem toThing_id (a : Thing) : laws_toThing a = some a := rfl
theorem toFind_id (a : Find) : laws_toFind a = some a := rfl
theorem toFindS_id (a : List Find) (h : a.length ≤ 1048576) : laws_toFindS a = some a := by
  have hr := run_fill a (fun x => x) (⟨⟨0, 0, 0, 0, 0⟩, 0, 0, 0⟩ : Find) (step := laws_toFindS_l3 a) (by omega) (fun i out hi ho => by
    simp only [laws_toFindS_l3, lt_ln hi, inb_n hi, gt_n hi, toFind_id, inb_n (show i < out.length by omega), Int.toNat_natCast, w64_n (show (i : Int) < 9223372036854775807 by omega), cond_true, need_true, Option.bind_some])
    (fun out => by simp only [laws_toFindS_l3, ge_ln (Nat.le_refl _), cond_false])
  unfold laws_toFindS
  rw [ln_eq, mkB_ok h (by omega), Int.toNat_natCast]
  simp only [need_true, hr, List.map_id', Option.bind_some]
theorem eqThing_refl (a : Thing) : laws_eqThing a a = some true := by simp [laws_eqThing]
theorem eqFind_refl (a : Find) : laws_eqFind a a = some true := by simp [laws_eqFind, eqThing_refl]
theorem eqFindS_refl (a : List Find) (h : a.length ≤ 1048576) : laws_eqFindS a a = some true := by
  have hr := run_loop a (step := laws_eqFindS_l4 a a) (fun i (_ : Unit) => (i : Int)) (fun _ _ _ => some (.inl ())) (fun _ => some (.brk ())) ()
    (fun i s hi => by simp only [laws_eqFindS_l4, lt_ln hi, inb_n hi, gt_n hi, eqFind_refl, w64_n (show (i : Int) < 9223372036854775807 by omega), cond_true, cond_false, need_true, Option.bind_some, Bool.not_true, Option.map_some, Sum.map_inl])
    (fun s => by simp only [laws_eqFindS_l4, ge_ln (Nat.le_refl _), cond_false, Option.map_some])
  rw [loopI_fold (g := fun _ _ => ()) a 0 () (fun _ _ _ _ => rfl)] at hr
  unfold laws_eqFindS
  simp only [decide_true, Bool.not_true, cond_false]
  rw [show ((0 : Int)) = ((0 : Nat) : Int) from rfl, hr]
  rfl
theorem countKind (l : List Find) (k : Int) (h : l.length ≤ 1048576) : ∃ c, spec_CountKind l k = some c ∧ impl_CountKind l k = some c := by
  have hr := run_loop l (step := spec_CountKind_l3 l k) (fun i (n : Int) => (n, (i : Int))) (fun _ n x => some (.inl (bif decide (x.Thing.Kind = k) then w64 (n + 1) else n))) (fun n => some n) 0
    (fun i s hi => by simp only [spec_CountKind_l3, lt_ln hi, inb_n hi, gt_n hi, w64_n (show (i : Int) < 9223372036854775807 by omega), cond_true, need_true, Option.map_some, Sum.map_inl]; cases decide (l[i].Thing.Kind = k) <;> rfl)
    (fun s => by simp only [spec_CountKind_l3, ge_ln (Nat.le_refl _), cond_false, Option.map_some])
  rw [loopI_fold l 0 0 (fun _ _ _ _ => rfl)] at hr
  obtain ⟨c, hr⟩ : ∃ c, run (spec_CountKind_l3 l k) (0, ((0 : Nat) : Int)) = some c := ⟨_, hr⟩
  refine ⟨c, ?_, ?_⟩
  · unfold spec_CountKind
    rw [show ((0 : Int), (0 : Int)) = ((0 : Int), ((0 : Nat) : Int)) from rfl, hr]; rfl
  · unfold impl_CountKind
    rw [show impl_CountKind_l3 k l (ln l) = spec_CountKind_l3 l k from rfl, show ((0 : Int), (0 : Int)) = ((0 : Int), ((0 : Nat) : Int)) from rfl, hr]; rfl
theorem pure_FnExactCountKind (aL : List Find) (aKind : Int) (h1 : (okL okFind) aL) (h2 : i64 aKind) : laws_FnExactCountKind aL aKind = some true := by
  unfold laws_FnExactCountKind laws_szFindS
  rw [ln_eq]
  cases hs : decide (w64 (1048576 - (aL.length : Int)) < 0) with
  | true => simp
  | false =>
    have hl := sz_small (by have := h1.1; omega) hs
    obtain ⟨c, hc1, hc2⟩ := countKind aL aKind hl
    simp [hs, toFindS_id aL hl, hc1, hc2, eqFindS_refl aL hl]
end Go.Proofs.Ytbbnecdpcblcfaa
