/- Finds: the program's answers are the reference's. No condition but the length. -/
import Derived.Test.YtomlnigcnkjelaaFam
namespace Go.Proofs.Ytomlnigcnkjelaa
open Go
set_option linter.unusedVariables false
set_option linter.unusedSimpArgs false
theorem pair0 {α : Type} (a : α) : (a, (0 : Int)) = (a, ((0 : Nat) : Int)) := rfl
/-- The place of the first of the least, among those from i on, k the best so far. -/
theorem worthOf (l : List Find) (h : l.length ≤ 1048576) : ∃ c, spec_WorthOf l = some c ∧ impl_WorthOf l = some c := by
  have e : ∀ n w : Int, (spec_Min 10000000 w).bind (fun r => (spec_Max 0 r).bind fun r2 => some (Sum.inl (β := Int) (w64 (n + r2)))) = some (.inl (w64 (n + (if 0 < (if 10000000 < w then 10000000 else w) then (if 10000000 < w then 10000000 else w) else 0)))) := by
    intro n w
    unfold spec_Min spec_Max
    by_cases h1 : w < 10000000
    · have h2 : ¬ 10000000 < w := by omega
      by_cases h3 : 0 < w <;> simp [h1, h2, h3]
    · by_cases h2 : 10000000 < w
      · simp [h1, h2]
      · have : w = 10000000 := by omega
        subst this; simp
  have hr := run_loop l (step := impl_WorthOf_l3 l (ln l)) (fun i (n : Int) => (n, (i : Int))) (fun _ n x => some (.inl (w64 (n + (if 0 < (if 10000000 < x.Thing.Worth then 10000000 else x.Thing.Worth) then (if 10000000 < x.Thing.Worth then 10000000 else x.Thing.Worth) else 0))))) (fun n => some n) 0
    (fun i s hi => by simp only [impl_WorthOf_l3, lt_ln hi, inb_n hi, gt_n hi, w64_n (show (i : Int) < 9223372036854775807 by omega), cond_true, need_true, Option.map_some, Sum.map_inl])
    (fun s => by simp only [impl_WorthOf_l3, ge_ln (Nat.le_refl _), cond_false, Option.map_some])
  have hs := run_loop l (step := spec_WorthOf_l3 l) (fun i (n : Int) => (n, (i : Int))) (fun _ n x => some (.inl (w64 (n + (if 0 < (if 10000000 < x.Thing.Worth then 10000000 else x.Thing.Worth) then (if 10000000 < x.Thing.Worth then 10000000 else x.Thing.Worth) else 0))))) (fun n => some n) 0
    (fun i s hi => by
      have := e s l[i].Thing.Worth
      simp only [spec_WorthOf_l3, lt_ln hi, inb_n hi, gt_n hi, w64_n (show (i : Int) < 9223372036854775807 by omega), cond_true, need_true, Option.map_some, Sum.map_inl]
      unfold spec_Min spec_Max at this ⊢
      by_cases h1 : l[i].Thing.Worth < 10000000 <;> simp only [h1, decide_true, decide_false, cond_true, cond_false, Option.bind_some] at this ⊢
      · by_cases h3 : 0 < l[i].Thing.Worth <;> simp only [h3, decide_true, decide_false, cond_true, cond_false, Option.bind_some] at this ⊢ <;> injection this with this <;> injection this with this <;> rw [this]
      · simp only [show (0 : Int) < 10000000 by omega, decide_true, cond_true, Option.bind_some] at this ⊢
        injection this with this; injection this with this; rw [this])
    (fun s => by simp only [spec_WorthOf_l3, ge_ln (Nat.le_refl _), cond_false, Option.map_some])
  rw [loopI_fold l 0 0 (fun _ _ _ _ => rfl)] at hr hs
  exact ⟨_, by unfold spec_WorthOf; rw [pair0, hs]; rfl, by unfold impl_WorthOf; rw [pair0, hr]; rfl⟩
/-- The place of the first of the least hours among the first i. -/
def bestAt (l : List Find) : Nat → Nat
  | 0 => 0
  | i + 1 => if (l.getD i default).At < (l.getD (bestAt l i) default).At then i else bestAt l i
theorem bestAt_le (l : List Find) : ∀ i, bestAt l (i + 1) ≤ i
  | 0 => by unfold bestAt; split <;> simp [bestAt]
  | i + 1 => by
    rw [bestAt]
    have := bestAt_le l i
    split <;> omega
theorem getD_at {l : List Find} {i : Nat} (h : i < l.length) : l[i] = l.getD i default := by rw [List.getD_eq_getElem?_getD, List.getElem?_eq_getElem h]; rfl
theorem oldestFind (l : List Find) (h : l.length ≤ 1048576) : ∃ c, spec_OldestFind l = some c ∧ impl_OldestFind l = some c := by
  cases hl : l with
  | nil => exact ⟨0, by unfold spec_OldestFind; rw [run_eq]; rfl, rfl⟩
  | cons x l' =>
    rw [← hl]
    have hpos : 0 < l.length := by rw [hl]; simp
    have hbl : ∀ i, i ≤ l.length → bestAt l i < l.length := fun i hi => by
      cases i with
      | zero => exact hpos
      | succ i => have := bestAt_le l i; omega
    have hs := run_traj (step := spec_OldestFind_l3 l) (fun i => match i with | 0 => ((-1 : Int), ((0 : Nat) : Int)) | i + 1 => (((bestAt l (i + 1) : Nat) : Int), ((i + 1 : Nat) : Int))) (r := ((bestAt l l.length : Nat) : Int)) l.length
      (fun i hi => by
        cases i with
        | zero =>
          simp only [spec_OldestFind_l3, lt_ln hpos, cond_true, show decide ((-1 : Int) < 0) = true from rfl]
          rw [w64_n (by omega)]
          simp [bestAt]
        | succ i =>
          have hb := hbl (i + 1) (by omega)
          have hneg : decide (((bestAt l (i + 1) : Nat) : Int) < 0) = false := decide_eq_false (by omega)
          simp only [spec_OldestFind_l3, lt_ln hi, inb_n hi, gt_n hi, inb_n hb, gt_n hb, hneg, cond_true, cond_false, need_true, w64_n (show ((i + 1 : Nat) : Int) < 9223372036854775807 by omega)]
          rw [bestAt.eq_2 l (i + 1), getD_at hi, getD_at hb]
          by_cases hc : (l.getD (i + 1) default).At < (l.getD (bestAt l (i + 1)) default).At
          · rw [decide_eq_true hc, if_pos hc]; rfl
          · rw [decide_eq_false hc, if_neg hc]; rfl)
      (by
        obtain ⟨m, hm⟩ : ∃ m, l.length = m + 1 := ⟨l.length - 1, by omega⟩
        simp only [hm]
        rw [← hm]
        simp only [spec_OldestFind_l3, ge_ln (Nat.le_refl _), cond_false])
    have hi' := run_traj (step := impl_OldestFind_l5 l (ln l)) (fun i => (l.getD (bestAt l i) default, (i : Int))) (r := l.getD (bestAt l l.length) default) l.length
      (fun i hi => by
        have hb := hbl i (by omega)
        simp only [impl_OldestFind_l5, lt_ln hi, inb_n hi, gt_n hi, cond_true, need_true, w64_n (show (i : Int) < 9223372036854775807 by omega)]
        rw [bestAt.eq_2 l i, getD_at hi]
        by_cases hc : (l.getD i default).At < (l.getD (bestAt l i) default).At
        · rw [decide_eq_true hc, if_pos hc]; rfl
        · rw [decide_eq_false hc, if_neg hc]; rfl)
      (by simp only [impl_OldestFind_l5, ge_ln (Nat.le_refl _), cond_false])
    have hb := hbl l.length (Nat.le_refl _)
    have hneg : decide (((bestAt l l.length : Nat) : Int) < 0) = false := decide_eq_false (by omega)
    have h0 : decide (ln l = 0) = false := decide_eq_false (by rw [ln_eq]; omega)
    refine ⟨(l.getD (bestAt l l.length) default).Thing.Id, ?_, ?_⟩
    · unfold spec_OldestFind
      rw [show ((-1 : Int), (0 : Int)) = ((-1 : Int), ((0 : Nat) : Int)) from rfl, hs]
      simp only [Option.bind_some, hneg, cond_false, inb_n hb, gt_n hb, need_true, getD_at hb]
    · unfold impl_OldestFind
      have e0 : gt l 0 = l.getD (bestAt l 0) default := by rw [show (0 : Int) = ((0 : Nat) : Int) from rfl, gt_n hpos, getD_at hpos]; rfl
      rw [h0, show inb l 0 = true from inb_n hpos, e0, pair0, hi']
      rfl
theorem isFind_eq : spec_IsFind = impl_IsFind := rfl
theorem isFind_some (x : Find) : ∃ b, impl_IsFind x = some b := by
  simp only [impl_IsFind, impl_IsThing, impl_InRange, Option.bind_some, b_and]
  exact ⟨_, rfl⟩
theorem areFinds (l : List Find) (h : l.length ≤ 1048576) : ∃ b, spec_AreFinds l = some b ∧ impl_AreFinds l = some b := by
  have hr := run_loop l (step := impl_AreFinds_l4 l l (ln l)) (fun i (_ : Unit) => (i : Int)) (fun i _ x => (impl_IsFind x).bind fun r => (bif !r then some (.inr (.ret false)) else (bif (decide ((0 : Int) < i)) then (bif (decide (x.Thing.Id ≤ (l.getD (i - 1) default).Thing.Id)) then some (.inr (.ret false)) else some (.inl ())) else some (.inl ())))) (fun _ => some (.brk ())) ()
    (fun i s hi => by
      obtain ⟨b, hb⟩ := isFind_some l[i]
      simp only [impl_AreFinds_l4, lt_ln hi, inb_n hi, gt_n hi, w64_n (show (i : Int) < 9223372036854775807 by omega), cond_true, need_true, hb, Option.bind_some]
      cases b with
      | false => rfl
      | true =>
        simp only [Bool.not_true, cond_false]
        by_cases h0 : (0 : Int) < i
        · have h1 : i - 1 < l.length := by omega
          have e : w64 ((i : Int) - 1) = ((i - 1 : Nat) : Int) := by rw [w64_in] <;> omega
          simp only [decide_eq_true h0, cond_true, e, inb_n h1, gt_n h1, need_true, getD_at h1]
          cases decide (l[i].Thing.Id ≤ (l.getD (i - 1) default).Thing.Id) <;> rfl
        · simp only [decide_eq_false h0, cond_false]; rfl)
    (fun s => by simp only [impl_AreFinds_l4, ge_ln (Nat.le_refl _), cond_false, Option.map_some])
  have ht := loopI_two (body := fun i _ x => (impl_IsFind x).bind fun r => (bif !r then some (.inr (.ret false)) else (bif (decide ((0 : Int) < i)) then (bif (decide (x.Thing.Id ≤ (l.getD (i - 1) default).Thing.Id)) then some (.inr (.ret false)) else some (.inl ())) else some (.inl ())))) (fin := fun _ => some (Fl.brk ())) (r0 := Fl.ret false) (r1 := Fl.brk ()) rfl l 0 (fun j x _ _ => by
    obtain ⟨b, hb⟩ := isFind_some x
    rw [hb]
    cases b with
    | false => exact .inr rfl
    | true =>
      simp only [Option.bind_some, Bool.not_true, cond_false]
      cases decide ((0 : Int) < j) with
      | false => exact .inl rfl
      | true =>
        cases decide (x.Thing.Id ≤ (l.getD (j - 1) default).Thing.Id) with
        | false => exact .inl rfl
        | true => exact .inr rfl)
  rw [← hr] at ht
  rw [show (((0 : Nat)) : Int) = 0 from rfl] at ht
  unfold spec_AreFinds impl_AreFinds
  rw [show spec_AreFinds_l2 l = impl_AreFinds_l4 l l (ln l) from rfl]
  by_cases h20 : 20 < ln l
  · rw [decide_eq_true h20, decide_eq_false (by omega : ¬ ln l ≤ 20)]
    rcases ht with ht | ht <;> rw [ht] <;> exact ⟨_, rfl, rfl⟩
  · rw [decide_eq_false h20, decide_eq_true (by omega : ln l ≤ 20)]
    rcases ht with ht | ht <;> rw [ht] <;> exact ⟨_, rfl, rfl⟩
theorem foundAt (l : List Find) (p : Int) (h : l.length ≤ 1048576) : spec_FoundAt l p = some ((l.filter fun x => decide (x.Place = p)).map (·.Thing.Id)) ∧ impl_FoundAt l p = some ((l.filter fun x => decide (x.Place = p)).map (·.Thing.Id)) := by
  have hr := run_filter l (fun x => decide (x.Place = p)) (fun x => x.Thing.Id) (step := spec_FoundAt_l3 l p) (fun i out hi ho => by
      simp only [spec_FoundAt_l3, lt_ln hi, inb_n hi, gt_n hi, w64_n (show (i : Int) < 9223372036854775807 by omega), rm_ok (show out.length + 1 ≤ 2000000 by omega) (show 8 ≤ 1024 by omega), cond_true, need_true]
      cases decide (l[i].Place = p) <;> rfl)
    (fun out => by simp only [spec_FoundAt_l3, ge_ln (Nat.le_refl _), cond_false])
  exact ⟨by unfold spec_FoundAt; rw [hr]; rfl, by unfold impl_FoundAt; rw [show impl_FoundAt_l3 p l (ln l) = spec_FoundAt_l3 l p from rfl, hr]; rfl⟩
theorem busiestPlace (l : List Find) (h : l.length ≤ 1048576) : ∃ c, spec_BusiestPlace l = some c ∧ impl_BusiestPlace l = some c := by
  obtain ⟨b, e1, e2⟩ := areFinds l h
  unfold spec_BusiestPlace impl_BusiestPlace
  rw [e2]
  cases b with
  | false =>
    refine ⟨0, ?_, rfl⟩
    rw [run_eq]
    simp only [spec_BusiestPlace_l4, e1]
    rfl
  | true =>
    have he : spec_BusiestPlace_l4 l = impl_BusiestPlace_l5 l := by
      funext ⟨b, m, p⟩
      simp only [spec_BusiestPlace_l4, impl_BusiestPlace_l5, e1, Option.bind_some, cond_true, (foundAt l p h).1, (foundAt l p h).2]
    have hx : ∀ (n : Nat) (b m p : Int), p + n = 31 → 0 ≤ p → ∃ r, run (impl_BusiestPlace_l5 l) (b, m, p) = some r := by
      intro n
      induction n with
      | zero =>
        intro b m p hp h0
        refine ⟨b, ?_⟩
        rw [run_eq]
        simp only [impl_BusiestPlace_l5, decide_eq_false (by omega : ¬ p ≤ 30), cond_false]
        rfl
      | succ n ih =>
        intro b m p hp h0
        rw [run_eq]
        simp only [impl_BusiestPlace_l5, decide_eq_true (by omega : p ≤ 30), cond_true, (foundAt l p h).2, Option.bind_some]
        rw [w64_in (by omega) (by omega)]
        cases decide (m < _) with
        | false => exact ih _ _ _ (by omega) (by omega)
        | true => exact ih _ _ _ (by omega) (by omega)
    obtain ⟨r, hr⟩ := hx 30 0 0 1 (by omega) (by omega)
    exact ⟨r, by rw [he, hr]; rfl, by simp only [Option.bind_some, Bool.not_true, cond_false]; rw [hr]; rfl⟩
end Go.Proofs.Ytomlnigcnkjelaa
