/- Houses: what is looked up in them. No condition but the length. -/
import Derived.Test.YtcpelionmmnogaaFam
namespace Go.Proofs.Ytcpelionmmnogaa
open Go
set_option linter.unusedVariables false
set_option linter.unusedSimpArgs false
theorem trialOf (h : House) (c : Int) (hl : h.Trials.length ≤ 1048576) : ∃ r, spec_TrialOf h c = some r ∧ impl_TrialOf h c = some r := by
  have hs := run_find h.Trials (fun x => decide (x.Claim = c)) (fun i => (h.Trials.getD i default, true)) (step := spec_TrialOf_l2 c h (⟨0, 0, 0, 0⟩ : Trial))
    (fun i hi => by
      simp only [spec_TrialOf_l2, lt_ln hi, inb_n hi, gt_n hi, w64_n (show (i : Int) < 9223372036854775807 by omega), cond_true, need_true, List.getD_eq_getElem?_getD, List.getElem?_eq_getElem hi, Option.getD_some]
      cases decide (h.Trials[i].Claim = c) <;> rfl)
    (by simp only [spec_TrialOf_l2, ge_ln (Nat.le_refl _), cond_false])
  have hi := run_find h.Trials (fun x => decide (x.Claim = c)) (fun i => (i : Int)) (step := slices_IndexFunc_Trial_c103_l2 h.Trials c (ln h.Trials))
    (fun i hi => by
      simp only [slices_IndexFunc_Trial_c103_l2, impl_trialAt_1, Option.bind_some, lt_ln hi, inb_n hi, gt_n hi, w64_n (show (i : Int) < 9223372036854775807 by omega), cond_true, need_true]
      cases decide (h.Trials[i].Claim = c) <;> rfl)
    (by simp only [slices_IndexFunc_Trial_c103_l2, ge_ln (Nat.le_refl _), cond_false])
  unfold spec_TrialOf impl_TrialOf impl_trialAt slices_IndexFunc_Trial_c103
  rw [hs, hi]
  cases hf : h.Trials.findIdx? (fun x => decide (x.Claim = c)) with
  | none => exact ⟨_, rfl, rfl⟩
  | some i =>
    obtain ⟨hlt, _⟩ := find_at hf
    have hd : decide ((i : Int) < 0) = false := decide_eq_false (by omega)
    refine ⟨(h.Trials[i], true), ?_, ?_⟩
    · simp only [Option.bind_some, evO_r, List.getD_eq_getElem?_getD, List.getElem?_eq_getElem hlt, Option.getD_some]
    · simp only [Option.bind_some, evO_r, hd, cond_false, inb_n hlt, need_true, gt_n hlt]
end Go.Proofs.Ytcpelionmmnogaa
