/- The law FnViews of typed values. No condition. -/
import Derived.Test.YtkbilciipmijjaaGreatDoorPz4
namespace Go.Proofs.YtkbilciipmijjaaGreatDoor
open Go
set_option linter.unusedVariables false
set_option linter.unusedSimpArgs false
theorem pure_FnViews (c : List Int) (h1 : (okL (inKd .u8)) c) : laws_FnViews c = some true := by
  unfold laws_FnViews laws_big
  simp only [Option.bind_some]
  by_cases hb : 1048576 < ln c
  · rw [decide_eq_true hb]; rfl
  rw [decide_eq_false hb]
  rw [ln_eq] at hb
  have hc : c.length ≤ 1048576 := by omega
  obtain ⟨cu, e0, k0⟩ := l1New_ok c hc
  obtain ⟨c1, x1, e1, k1, _⟩ := l4Raw_ok cu k0
  obtain ⟨c2, n, e2, _, _⟩ := l1Int_ok c1 [0, 5, (-5), 99, 100, 12345, (-12345), 1000000000, 1000000001, (-1000000001), x1] k1 (by simp)
  have d1 : spec_DrawFormatCents c = some n := by unfold spec_DrawFormatCents; simp only [e0, e1, e2, Option.bind_some]
  obtain ⟨c3, cl, e3, _, n3, hcl⟩ := l13Any_ok cu k0
  have d2 : spec_DrawFormatClaims c = some cl := by unfold spec_DrawFormatClaims spec_DrawAreClaims; simp only [e0, e3, Option.bind_some]
  obtain ⟨c4, sl, e4, _, n4, hsl⟩ := l14Any_ok cu k0
  have d3 : spec_DrawFormatSlots c = some sl := by unfold spec_DrawFormatSlots spec_DrawAreSlots; simp only [e0, e4, Option.bind_some]
  obtain ⟨c5, a, e5, _, ha⟩ := l33Any_ok cu k0
  have d4 : spec_DrawFormatHouse c = some a := by unfold spec_DrawFormatHouse spec_DrawIsHouse; simp only [e0, e5, Option.bind_some]
  obtain ⟨s, s1, s2, s3⟩ := formatCentsV n
  obtain ⟨t, t1, t2, t3⟩ := formatClaimsV cl n3 hcl
  obtain ⟨u, u1, u2, u3⟩ := formatSlotsV sl (by omega) hsl
  obtain ⟨v, v1, v2, v3⟩ := formatHouseV a ha
  have r1 := count_run t 62 t2 (step := laws_FnViews_l11 c cl t) (fun n i hi => by simp only [laws_FnViews_l11, lt_ln hi, inb_n hi, gt_n hi, cond_true, need_true, w64_n (show (i : Int) < 9223372036854775807 by omega)]; rfl) (fun n => by simp only [laws_FnViews_l11, ge_ln (Nat.le_refl _), cond_false])
  rw [t3] at r1
  have r2 := count_run u 58 u2 (step := laws_FnViews_l19 c cl (cl.length : Int) sl u) (fun n i hi => by simp only [laws_FnViews_l19, lt_ln hi, inb_n hi, gt_n hi, cond_true, need_true, w64_n (show (i : Int) < 9223372036854775807 by omega)]; rfl) (fun n => by simp only [laws_FnViews_l19, ge_ln (Nat.le_refl _), cond_false])
  rw [u3] at r2
  have r3 := count_run v 32 v2 (step := laws_FnViews_l26 cl (cl.length : Int) sl (sl.length : Int) v) (fun n i hi => by simp only [laws_FnViews_l26, lt_ln hi, inb_n hi, gt_n hi, cond_true, need_true, w64_n (show (i : Int) < 9223372036854775807 by omega)]; rfl) (fun n => by simp only [laws_FnViews_l26, ge_ln (Nat.le_refl _), cond_false])
  rw [v3] at r3
  have q1 : decide ((cl.length : Int) = ln cl) = true := decide_eq_true rfl
  have q2 : decide ((sl.length : Int) = ln sl) = true := decide_eq_true rfl
  have q3 : decide (((5 : Nat) : Int) = 5) = true := rfl
  have f1 : impl_FormatNumbers [] = some [45] := by
    unfold impl_FormatNumbers
    rw [run_eq]
    rfl
  have f2 : impl_FormatHits [] = some [45] := by
    unfold impl_FormatHits
    rw [run_eq]
    rfl
  simp only [d1, d2, d3, d4, s1, t1, u1, v1, r1, r2, r3, q1, q2, q3, f1, f2, cond_true, cond_false, Option.bind_some, decide_true]
  by_cases hs : s = []
  · subst hs
    have ho := s2.1 rfl
    by_cases hn : n < -1000000000
    · rw [decide_eq_true hn]; rfl
    · rw [decide_eq_false hn, decide_eq_true (show (1000000000 : Int) < n by omega)]; rfl
  · obtain ⟨k, k1, k2, k3⟩ := s3 hs
    have ho : ¬ (n < -1000000000 ∨ 1000000000 < n) := fun h => hs (s2.2 h)
    have ew : w64 (ln s - 3) = (k : Int) := by rw [ln_eq, w64_in] <;> omega
    have hk : k < s.length := by omega
    have hg : gt s (k : Int) = 46 := by
      rw [gt_n hk]
      rw [List.getElem?_eq_getElem hk] at k3
      injection k3
    rw [decide_eq_false (show ¬ n < -1000000000 by omega), decide_eq_false (show ¬ 1000000000 < n by omega), decide_eq_false hs, ew, inb_n hk, hg]
    rfl
end Go.Proofs.YtkbilciipmijjaaGreatDoor
