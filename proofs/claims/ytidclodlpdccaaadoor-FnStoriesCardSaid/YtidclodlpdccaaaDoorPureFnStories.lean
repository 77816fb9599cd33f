/- The law FnStories of typed values. No condition. -/
import Derived.Test.YtidclodlpdccaaaDoorPz1
namespace Go.Proofs.YtidclodlpdccaaaDoor
open Go
set_option linter.unusedVariables false
set_option linter.unusedSimpArgs false
theorem pure_FnStories (c : List Int) (h1 : (okL (inKd .u8)) c) : laws_FnStories c = some true := by
  unfold laws_FnStories laws_big
  simp only [Option.bind_some]
  by_cases hb : 1048576 < ln c
  · rw [decide_eq_true hb]; rfl
  rw [decide_eq_false hb]
  rw [ln_eq] at hb
  have hc : c.length ≤ 1048576 := by omega
  obtain ⟨l, k, e, n1, hy⟩ := drawHandsOf_ok c hc
  obtain ⟨cu, e0, k0⟩ := l1New_ok c hc
  obtain ⟨c2, now, e2, _⟩ := l1Int_ok cu [0, 10, 40, 90, 100000, 100001] k0 (by simp)
  obtain ⟨c3, x3, e3, _⟩ := l1Below_ok cu 8 k0
  have d1 : spec_DrawStoryOf c = some (l, k) := by unfold spec_DrawStoryOf; rw [e]; rfl
  have d2 : spec_DrawStayHours c = some (l, k, now) := by unfold spec_DrawStayHours; simp only [e, e0, e2, Option.bind_some]
  have d3 : spec_DrawHolderText c = some (w64 (x3 - 1)) := by unfold spec_DrawHolderText; simp only [e0, e3, Option.bind_some]
  obtain ⟨s, s1, s2, s3, s4⟩ := storyI l k (by omega) hy
  obtain ⟨en, en1, en2⟩ := endI l k (by omega)
  obtain ⟨tr, tr1, tr2⟩ := travelI l k (by omega)
  obtain ⟨st, st1, st2, st3⟩ := stayI l k now (by omega)
  have hh := handsOfI l k (by omega)
  have hp := plus_run c l k s (l.filter fun x => decide (x.Thing = k)) s3
  rw [s2] at hp
  simp only [d1, d2, d3, s1, hh, hp, en1, tr1, st1, holdI_eq, cond_false, Option.bind_some]
  generalize (l.filter fun x => decide (x.Thing = k)) = m at s4 en2 tr2
  generalize w64 (x3 - 1) = x
  have q1 : decide ((m.length : Int) = ln m) = true := decide_eq_true (ln_eq m).symm
  have q2 : decide ((decide (s = [45])) = (decide (ln m = 0))) = true := by
    refine decide_eq_true (decide_eq_decide.2 ?_)
    rw [s4, ln_eq]; omega
  have q3 : decide ((decide (en = [45])) = (decide (ln m = 0))) = true := by
    refine decide_eq_true (decide_eq_decide.2 ?_)
    rw [en2, ln_eq]; omega
  have q4 : decide (tr ≤ ln m) = true := decide_eq_true (by rw [ln_eq]; exact tr2)
  have q5 : (bif (decide (x < 1)) then (decide ((decide (holdI x = [])) = true)) else (decide ((decide (holdI x = [])) = (decide (5 < x))))) = true := by
    have hn := holdI_nil x
    by_cases hx : x < 1
    · rw [decide_eq_true hx, decide_eq_true (hn.2 (.inl hx))]; rfl
    · rw [decide_eq_false hx]
      refine decide_eq_true (decide_eq_decide.2 ?_)
      rw [hn]; omega
  have tail : ((bif (decide (tr ≤ ln m)) then some (bif (decide (x < 1)) then (decide ((decide (holdI x = [])) = true)) else (decide ((decide (holdI x = [])) = (decide (5 < x))))) else some false : Option Bool)) = some true := by
    rw [q4, q5]; rfl
  simp only [q1, q2, q3, q4, q5, Bool.not_true, cond_false, cond_true, Option.bind_some, decide_eq_true st2]
  by_cases hz : st = 0
  · rw [decide_eq_true hz]; rfl
  · rw [decide_eq_false hz]
    have : st ≤ now := by rcases st3 with h | h <;> omega
    rw [decide_eq_true this]; rfl
end Go.Proofs.YtidclodlpdccaaaDoor
