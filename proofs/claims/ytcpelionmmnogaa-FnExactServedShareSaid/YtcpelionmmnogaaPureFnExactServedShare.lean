/- The law FnExactServedShare of typed values. No condition. -/
import Derived.Test.YtcpelionmmnogaaFam
namespace Go.Proofs.Ytcpelionmmnogaa
open Go
set_option linter.unusedVariables false
set_option linter.unusedSimpArgs false
theorem servedShare (h : House) (hl : h.Claims.length ≤ 1048576) : ∃ c, spec_ServedShare h = some c ∧ impl_ServedShare h = some c := by
  have hr := run_loop h.Claims (step := spec_ServedShare_l3 h) (fun i (n : Int) => (n, (i : Int))) (fun _ n x => some (.inl (bif decide (x.State = 3) then w64 (n + 1) else n))) (fun n => some n) 0
    (fun i s hi => by simp only [spec_ServedShare_l3, lt_ln hi, inb_n hi, gt_n hi, w64_n (show (i : Int) < 9223372036854775807 by omega), cond_true, need_true, Option.map_some, Sum.map_inl]; cases decide (h.Claims[i].State = 3) <;> rfl)
    (fun s => by simp only [spec_ServedShare_l3, ge_ln (Nat.le_refl _), cond_false, Option.map_some])
  rw [loopI_fold h.Claims 0 0 (fun _ _ _ _ => rfl)] at hr
  obtain ⟨c, hr⟩ : ∃ c, run (spec_ServedShare_l3 h) (0, ((0 : Nat) : Int)) = some c := ⟨_, hr⟩
  replace hr : run (spec_ServedShare_l3 h) (0, 0) = some c := hr
  have e : impl_ServedShare_l5 h h.Claims (ln h.Claims) = spec_ServedShare_l3 h := rfl
  unfold spec_ServedShare impl_ServedShare
  rw [e, hr]
  by_cases h0 : ln h.Finds = 0
  · exact ⟨0, by simp [h0], by simp [h0]⟩
  · exact ⟨w64 ((w64 (100 * c)).tdiv (ln h.Finds)), by simp only [Option.bind_some, decide_eq_false h0, cond_false, Bool.not_false, need_true], by simp only [Option.bind_some, decide_eq_false h0, cond_false, Bool.not_false, need_true]⟩
theorem pure_FnExactServedShare (aH : House) (h1 : okHouse aH) : laws_FnExactServedShare aH = some true := by
  unfold laws_FnExactServedShare
  obtain ⟨r, e, hle, h | ⟨hp, hs⟩⟩ := szHouse_sm aH 1048576 h1 (by omega) (by omega)
  · subst h; rw [e]; rfl
  · have hc : aH.Claims.length ≤ 1048576 := by have := hs; unfold sm_House at this; exact this.2.2.2.1
    obtain ⟨c, hc1, hc2⟩ := servedShare aH hc
    have hd : decide (r < 0) = false := decide_eq_false (by omega)
    simp only [e, hd, toHouse_id aH hs, hc1, hc2, eqHouse_refl aH hs, Option.bind_some, cond_false, decide_true, Bool.not_true]
end Go.Proofs.Ytcpelionmmnogaa
