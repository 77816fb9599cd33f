/- Hands: the program's answers are the reference's. No condition but the length. -/
import Derived.Test.YtomlnigcnkjelaaFam
namespace Go.Proofs.Ytomlnigcnkjelaa
open Go
set_option linter.unusedVariables false
set_option linter.unusedSimpArgs false
theorem holderText (h : Int) : ∃ c, spec_HolderText h = some c ∧ impl_HolderText h = some c := by
  by_cases hk : 1 ≤ h ∧ h ≤ 5
  · obtain ⟨h2, h3⟩ := hk
    have : h = 1 ∨ h = 2 ∨ h = 3 ∨ h = 4 ∨ h = 5 := by omega
    rcases this with rfl | rfl | rfl | rfl | rfl <;> exact ⟨_, rfl, rfl⟩
  · have e : (decide (1 ≤ h) && decide (h ≤ 5)) = false := by
      by_cases h2 : 1 ≤ h
      · have h3 : ¬ h ≤ 5 := by omega
        simp [h2, h3]
      · simp [h2]
    exact ⟨[], by unfold spec_HolderText spec_l1In; simp [e], by unfold impl_HolderText impl_InRange; simp [e]⟩
/-- The hands of a thing. -/
theorem handsOfS (l : List Hand) (t : Int) (h : l.length ≤ 1048576) : spec_HandsOf l t = some (l.filter fun x => decide (x.Thing = t)) := by
  have hr := run_filter l (fun x => decide (x.Thing = t)) (fun x => x) (step := spec_HandsOf_l3 l t) (fun i out hi ho => by
      simp only [spec_HandsOf_l3, lt_ln hi, inb_n hi, gt_n hi, w64_n (show (i : Int) < 9223372036854775807 by omega), rm_ok (show out.length + 1 ≤ 2000000 by omega) (show 40 ≤ 1024 by omega), cond_true, need_true]
      cases decide (l[i].Thing = t) <;> rfl)
    (fun out => by simp only [spec_HandsOf_l3, ge_ln (Nat.le_refl _), cond_false])
  rw [List.map_id'] at hr
  unfold spec_HandsOf; rw [hr]; rfl
/-- The place of the last hand of a thing among the first n. -/
theorem lastHand_run (l : List Hand) (t : Int) (h : l.length ≤ 1048576) : ∀ n, n ≤ l.length → ∃ c, run (impl_lastHand_l2 l t) ((n : Int) - 1) = some c ∧
    (((l.take n).filter (fun x => decide (x.Thing = t)) = [] ∧ c = .brk ()) ∨ ∃ k, ∃ hk : k < l.length, k < n ∧ c = .ret (k : Int) ∧ ((l.take n).filter (fun x => decide (x.Thing = t))).getLast? = some l[k])
  | 0, _ => ⟨.brk (), by rw [run_eq]; rfl, .inl ⟨by simp, rfl⟩⟩
  | n + 1, hn => by
    have hlt : n < l.length := by omega
    have e1 : ((n + 1 : Nat) : Int) - 1 = (n : Int) := by omega
    have e2 : decide (0 ≤ (n : Int)) = true := decide_eq_true (by omega)
    have e3 : w64 ((n : Int) - 1) = (n : Int) - 1 := by rw [w64_in] <;> omega
    rw [e1, run_eq]
    by_cases hp : l[n].Thing = t
    · have hd : decide (l[n].Thing = t) = true := decide_eq_true hp
      refine ⟨.ret (n : Int), ?_, .inr ⟨n, hlt, by omega, rfl, ?_⟩⟩
      · simp only [impl_lastHand_l2, e2, inb_n hlt, gt_n hlt, hd, cond_true, need_true, Option.bind_some]
      · rw [List.take_succ_eq_append_getElem hlt, List.filter_append]
        simp [hp]
    · have hd : decide (l[n].Thing = t) = false := decide_eq_false hp
      obtain ⟨c, h1, h2⟩ := lastHand_run l t h n (by omega)
      have hf : (l.take (n + 1)).filter (fun x => decide (x.Thing = t)) = (l.take n).filter (fun x => decide (x.Thing = t)) := by
        rw [List.take_succ_eq_append_getElem hlt, List.filter_append]
        simp [hp]
      refine ⟨c, ?_, ?_⟩
      · simp only [impl_lastHand_l2, e2, inb_n hlt, gt_n hlt, hd, e3, cond_true, cond_false, need_true, Option.bind_some]
        exact h1
      · rw [hf]
        rcases h2 with h2 | ⟨k, hk, h3, h4⟩
        · exact .inl h2
        · exact .inr ⟨k, hk, by omega, h4⟩
theorem lastHand_at (l : List Hand) (t : Int) (h : l.length ≤ 1048576) :
    (l.filter (fun x => decide (x.Thing = t)) = [] ∧ impl_lastHand l t = some (-1)) ∨ ∃ k, ∃ hk : k < l.length, impl_lastHand l t = some (k : Int) ∧ (l.filter (fun x => decide (x.Thing = t))).getLast? = some l[k] := by
  obtain ⟨c, h1, h2⟩ := lastHand_run l t h l.length (Nat.le_refl _)
  rw [List.take_length] at h2
  have e : w64 (ln l - 1) = (l.length : Int) - 1 := by rw [ln_eq, w64_in] <;> omega
  unfold impl_lastHand
  rw [e, h1]
  rcases h2 with ⟨h2, rfl⟩ | ⟨k, hk, _, rfl, h3⟩
  · exact .inl ⟨h2, rfl⟩
  · exact .inr ⟨k, hk, rfl, h3⟩
theorem endOf (l : List Hand) (t : Int) (h : l.length ≤ 1048576) : ∃ c, spec_EndOf l t = some c ∧ impl_EndOf l t = some c := by
  have e1 := handsOfS l t h
  have hl : (l.filter fun x => decide (x.Thing = t)).length ≤ 1048576 := Nat.le_trans (List.length_filter_le _ _) h
  rcases lastHand_at l t h with ⟨h1, h2⟩ | ⟨k, hk, h1, h2⟩
  · exact ⟨[45], by unfold spec_EndOf; rw [e1, h1]; rfl, by unfold impl_EndOf; rw [h2]; rfl⟩
  · generalize l.filter (fun x => decide (x.Thing = t)) = m at e1 hl h2
    have hm : 0 < m.length := by
      cases m with
      | nil => simp at h2
      | cons x m => simp
    have hi : m.length - 1 < m.length := by omega
    have e2 : m[m.length - 1] = l[k] := by
      rw [List.getLast?_eq_getElem?, List.getElem?_eq_getElem hi] at h2
      injection h2
    have e3 : w64 (ln m - 1) = ((m.length - 1 : Nat) : Int) := by rw [ln_eq, w64_in] <;> omega
    have e4 : decide (ln m = 0) = false := decide_eq_false (by rw [ln_eq]; omega)
    have e5 : decide ((k : Int) < 0) = false := decide_eq_false (by omega)
    obtain ⟨c, k1, k2⟩ := holderText l[k].Holder
    exact ⟨c, by unfold spec_EndOf; simp only [e1, Option.bind_some, e3, e4, inb_n hi, gt_n hi, e2, k1, cond_false, need_true],
      by unfold impl_EndOf; simp only [h1, Option.bind_some, e5, inb_n hk, gt_n hk, k2, cond_false, need_true]⟩
end Go.Proofs.Ytomlnigcnkjelaa
