/- Counts over lists: the program's answer is the reference's. No condition but the length. -/
import Derived.Test.YtbbnecdpcblcfaaFam
namespace Go.Proofs.Ytbbnecdpcblcfaa
open Go
set_option linter.unusedVariables false
set_option linter.unusedSimpArgs false
theorem w64_sub1 {i : Nat} (h0 : 1 ≤ i) (h : (i : Int) ≤ 9223372036854775807) : w64 ((i : Int) - 1) = ((i - 1 : Nat) : Int) := by rw [w64_in] <;> omega
theorem openClaims (l : List Claim) (h : l.length ≤ 1048576) : ∃ c, spec_OpenClaims l = some c ∧ impl_OpenClaims l = some c := by
  have hr := run_loop l (step := spec_OpenClaims_l3 l) (fun i (n : Int) => (n, (i : Int))) (fun _ n x => some (.inl (bif decide (x.State = 0) then w64 (n + 1) else n))) (fun n => some n) 0
    (fun i s hi => by simp only [spec_OpenClaims_l3, lt_ln hi, inb_n hi, gt_n hi, w64_n (show (i : Int) < 9223372036854775807 by omega), cond_true, need_true, Option.map_some, Sum.map_inl]; cases decide (l[i].State = 0) <;> rfl)
    (fun s => by simp only [spec_OpenClaims_l3, ge_ln (Nat.le_refl _), cond_false, Option.map_some])
  rw [loopI_fold l 0 0 (fun _ _ _ _ => rfl)] at hr
  obtain ⟨c, hr⟩ : ∃ c, run (spec_OpenClaims_l3 l) (0, ((0 : Nat) : Int)) = some c := ⟨_, hr⟩
  exact ⟨c, by unfold spec_OpenClaims; rw [show ((0 : Int), (0 : Int)) = ((0 : Int), ((0 : Nat) : Int)) from rfl, hr]; rfl, by unfold impl_OpenClaims; rw [show impl_OpenClaims_l3 l (ln l) = spec_OpenClaims_l3 l from rfl, show ((0 : Int), (0 : Int)) = ((0 : Int), ((0 : Nat) : Int)) from rfl, hr]; rfl⟩
/-- The hands of a thing. -/
theorem handsOf (l : List Hand) (t : Int) (h : l.length ≤ 1048576) : spec_HandsOf l t = some (l.filter fun x => decide (x.Thing = t)) ∧ impl_HandsOf l t = some (l.filter fun x => decide (x.Thing = t)) := by
  have hr := run_filter l (fun x => decide (x.Thing = t)) (fun x => x) (step := spec_HandsOf_l3 l t) (fun i out hi ho => by
      simp only [spec_HandsOf_l3, lt_ln hi, inb_n hi, gt_n hi, w64_n (show (i : Int) < 9223372036854775807 by omega), rm_ok (show out.length + 1 ≤ 2000000 by omega) (show 40 ≤ 1024 by omega), cond_true, need_true]
      cases decide (l[i].Thing = t) <;> rfl)
    (fun out => by simp only [spec_HandsOf_l3, ge_ln (Nat.le_refl _), cond_false])
  rw [List.map_id'] at hr
  exact ⟨by unfold spec_HandsOf; rw [hr]; rfl, by unfold impl_HandsOf; rw [show impl_HandsOf_l3 t l (ln l) = spec_HandsOf_l3 l t from rfl, hr]; rfl⟩
theorem travelCount (l : List Hand) (t : Int) (h : l.length ≤ 1048576) : ∃ c, spec_TravelCount l t = some c ∧ impl_TravelCount l t = some c := by
  obtain ⟨e1, e2⟩ := handsOf l t h
  have hl : (l.filter fun x => decide (x.Thing = t)).length ≤ 1048576 := Nat.le_trans (List.length_filter_le _ _) h
  generalize l.filter (fun x => decide (x.Thing = t)) = m at e1 e2 hl
  have key : ∃ c, run (spec_TravelCount_l4 m) (0, 1) = some c := by
    cases m with
    | nil => exact ⟨0, by rw [run_eq]; rfl⟩
    | cons x m =>
      have hr := run_loop m (step := spec_TravelCount_l4 (x :: m)) (fun i (n : Int) => (n, ((i + 1 : Nat) : Int))) (fun i n y => some (.inl (bif decide (y.Holder = 2) then (bif decide (((x :: m).getD i default).Holder = 2) then w64 (n + 1) else n) else n))) (fun n => some n) 0
        (fun i s hi => by
          have h1 : i + 1 < (x :: m).length := by simp; omega
          have h2 : i < (x :: m).length := by simp; omega
          simp only [List.length_cons] at hl
          have e3 : (x :: m)[i + 1] = m[i] := rfl
          have e4 : gt (x :: m) ((i : Nat) : Int) = (x :: m).getD i default := by rw [gt_n h2, List.getD_eq_getElem?_getD, List.getElem?_eq_getElem h2]; rfl
          have e5 : w64 (((i + 1 : Nat) : Int) - 1) = ((i : Nat) : Int) := by rw [w64_in] <;> omega
          simp only [spec_TravelCount_l4, lt_ln h1, inb_n h1, gt_n h1, e3, e5, inb_n h2, e4, w64_n (show (((i + 1 : Nat)) : Int) < 9223372036854775807 by omega), cond_true, need_true, Option.map_some, Sum.map_inl]
          cases decide (m[i].Holder = 2) <;> cases decide (((x :: m).getD i default).Holder = 2) <;> rfl)
        (fun s => by simp only [spec_TravelCount_l4, ge_ln (show (x :: m).length ≤ m.length + 1 from Nat.le_refl _), cond_false, Option.map_some])
      rw [show ((0 : Int), (1 : Int)) = ((0 : Int), ((0 + 1 : Nat) : Int)) from rfl, hr]
      exact loopI_some (fun n => ⟨n, rfl⟩) m 0 0 (fun i s y _ => ⟨_, rfl⟩)
  obtain ⟨c, hc⟩ := key
  exact ⟨c, by unfold spec_TravelCount; rw [e1]; simp only [Option.bind_some]; rw [hc]; rfl, by unfold impl_TravelCount; rw [e2]; simp only [Option.bind_some]; rw [show impl_TravelCount_l4 m = spec_TravelCount_l4 m from rfl, hc]; rfl⟩
end Go.Proofs.Ytbbnecdpcblcfaa
