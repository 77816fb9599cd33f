/- The law FnExactEqualHits of typed values. No condition. -/
import Derived.Test.YtbbnecdpcblcfaaFam
namespace Go.Proofs.Ytbbnecdpcblcfaa
open Go
set_option linter.unusedVariables false
set_option linter.unusedSimpArgs false
theorem pure_FnExactEqualHits (aA : List Hit) (aB : List Hit) (h1 : (okL okHit) aA) (h2 : (okL okHit) aB) : laws_FnExactEqualHits aA aB = some true := by
  unfold laws_FnExactEqualHits laws_szHitS
  rw [ln_eq, ln_eq]
  cases hs : decide (w64 (1048576 - (aA.length : Int)) < 0) with
  | true => simp
  | false =>
    have hl := sz_small (by have := h1.1; omega) hs
    have e0 : w64 (1048576 - (aA.length : Int)) = 1048576 - (aA.length : Int) := by rw [w64_in] <;> omega
    simp only [Option.bind_some, hs, cond_false]
    cases hs2 : decide (w64 (w64 (1048576 - (aA.length : Int)) - (aB.length : Int)) < 0) with
    | true => simp
    | false =>
      have hl2 : aB.length ≤ 1048576 := by
        rw [e0] at hs2
        have h3 := h2.1
        rw [w64_in (by omega) (by omega)] at hs2
        simp at hs2; omega
      have key : ∃ b, spec_EqualHits aA aB = some b ∧ impl_EqualHits aA aB = some b := by
        by_cases hab : ln aA = ln aB
        · have hlen : aA.length = aB.length := by have := hab; simp only [ln_eq] at this; omega
          have hr := run_loop aA (step := spec_EqualHits_l4 aA aB) (fun i (_ : Unit) => (i : Int)) (fun i _ x => some (if eq_Hit x (aB.getD i default) then .inl () else .inr (.ret false))) (fun _ => some (.brk ())) ()
            (fun i s hi => by
              have hi2 : i < aB.length := by omega
              simp only [spec_EqualHits_l4, lt_ln hi, inb_n hi, gt_n hi, inb_n hi2, gt_n hi2, w64_n (show (i : Int) < 9223372036854775807 by omega), cond_true, need_true, List.getD_eq_getElem?_getD, List.getElem?_eq_getElem hi2, Option.getD_some]
              cases eq_Hit aA[i] aB[i] <;> rfl)
            (fun s => by simp only [spec_EqualHits_l4, ge_ln (Nat.le_refl _), cond_false, Option.map_some])
          obtain ⟨c, hc⟩ : ∃ c, run (spec_EqualHits_l4 aA aB) 0 = some c := by
            rw [show (0 : Int) = ((0 : Nat) : Int) from rfl, hr]
            exact loopI_some (fun _ => ⟨_, rfl⟩) aA 0 () (fun i s y _ => ⟨_, rfl⟩)
          clear hr
          refine ⟨evO (fun r => r) (fun _ => true) c, ?_, ?_⟩
          · unfold spec_EqualHits
            simp only [hab, decide_true, Bool.not_true, cond_false, hc, Option.bind_some]
            cases c <;> rfl
          · unfold impl_EqualHits slices_Equal_Hit
            rw [show slices_Equal_Hit_l4 aA aB (ln aA) = spec_EqualHits_l4 aA aB from rfl]
            simp only [hab, decide_true, Bool.not_true, cond_false, hc, Option.bind_some]
            cases c <;> rfl
        · exact ⟨false, by unfold spec_EqualHits; simp [hab], by unfold impl_EqualHits slices_Equal_Hit; simp [hab]⟩
      obtain ⟨b, k1, k2⟩ := key
      simp [hs2, toHitS_id aA hl, toHitS_id aB hl2, k1, k2, eqHitS_refl aA hl, eqHitS_refl aB hl2]
end Go.Proofs.Ytbbnecdpcblcfaa
