/- What makes a house valid, part three: who has what, trials, the latest hour. The program's answers are the reference's. No condition but the length. -/
import Derived.Test.YtcdffihcfeajfaaGreatPyIsH2
import Derived.Test.YtcdffihcfeajfaaGreatPyFind
namespace Go.Proofs.YtcdffihcfeajfaaGreat
open Go
set_option linter.unusedVariables false
set_option linter.unusedSimpArgs false
theorem lastIx_thing (l : List Hand) (t : Int) : ∀ (n j : Nat), lastIx l t n = (j : Int) → j < n ∧ (gt l (j : Int)).Thing = t
  | 0, j, h => by unfold lastIx at h; omega
  | n + 1, j, h => by
    unfold lastIx at h
    split at h
    · rename_i ht
      have : n = j := by omega
      subst this
      exact ⟨by omega, ht⟩
    · obtain ⟨h1, h2⟩ := lastIx_thing l t n j h
      exact ⟨by omega, h2⟩
theorem lastIx_ge (l : List Hand) (t : Int) : ∀ (n i : Nat), i < n → (gt l (i : Int)).Thing = t → ∃ j : Nat, j < n ∧ lastIx l t n = (j : Int)
  | 0, i, hi, _ => by omega
  | n + 1, i, hi, ht => by
    unfold lastIx
    by_cases hn : (gt l (n : Int)).Thing = t
    · rw [if_pos hn]; exact ⟨n, by omega, rfl⟩
    · rw [if_neg hn]
      have : i ≠ n := fun h => by subst h; exact hn ht
      obtain ⟨j, h1, h2⟩ := lastIx_ge l t n i (by omega) ht
      exact ⟨j, by omega, h2⟩
/-- The thing is in the house: its last hand is the house's. -/
def hm (l : List Hand) (house t : Int) : Bool := decide ((gt l (lastIx l t l.length)).Holder = 2) && decide ((gt l (lastIx l t l.length)).Who = house)
theorem l9Put (out : List Int) (x : Int) (hl : out.length ≤ 1000000) : ∃ out', spec_l9Put out x = some out' ∧ out'.length ≤ out.length + 1 ∧ ∀ t, t ∈ out' ↔ t ∈ out ∨ t = x := by
  have key : ∀ (m i : Nat), i + m = out.length → ∃ k : Nat, k ≤ out.length ∧ run (spec_l9Put_l2 out x) (i : Int) = some (k : Int) := by
    intro m
    induction m with
    | zero =>
      intro i hi
      have : i = out.length := by omega
      subst this
      exact ⟨out.length, Nat.le_refl _, by rw [run_eq]; simp only [spec_l9Put_l2, ge_ln (Nat.le_refl _), cond_false, Option.bind_some]⟩
    | succ m ih =>
      intro i hi
      have hlt : i < out.length := by omega
      cases hc : decide (out[i] < x) with
      | false => exact ⟨i, by omega, by rw [run_eq]; simp only [spec_l9Put_l2, lt_ln hlt, inb_n hlt, gt_n hlt, hc, cond_true, cond_false, need_true, Option.bind_some]⟩
      | true =>
        obtain ⟨k, k1, k2⟩ := ih (i + 1) (by omega)
        refine ⟨k, k1, ?_⟩
        rw [run_eq]
        simp only [spec_l9Put_l2, lt_ln hlt, inb_n hlt, gt_n hlt, hc, cond_true, need_true, Option.bind_some, w64_n (show (i : Int) < 9223372036854775807 by omega)]
        exact k2
  obtain ⟨k, hk, hr⟩ := key out.length 0 (by omega)
  have hr' : run (spec_l9Put_l2 out x) 0 = some (k : Int) := hr
  have e1 : cut out 0 (k : Int) = out.take k := cut_take out k
  have e2 : cut out (k : Int) (ln out) = out.drop k := by unfold cut; rw [ln_eq]; simp
  have new : spec_l9Put out x = some out ∧ x ∈ out ∨ spec_l9Put out x = some (out.take k ++ [x] ++ out.drop k) := by
    have s1 : slB 0 (k : Int) (ln out) = true := slB_ok hk
    have s2 : slB (k : Int) (ln out) (ln out) = true := by unfold slB; rw [ln_eq]; simp; omega
    have put : (nd (slB 0 (k : Int) (ln out)) <| nd (slB (k : Int) (ln out) (ln out)) <| nd (rm (0 + (cut out 0 (k : Int)).length) 8) <| nd (rm ((cut out 0 (k : Int)).length + 1) 8) <| nd (rm ((cut out 0 (k : Int)).length + 1 + (cut out (k : Int) (ln out)).length) 8) <| some (((cut out 0 (k : Int)) ++ [x]) ++ (cut out (k : Int) (ln out)))) = some (out.take k ++ [x] ++ out.drop k) := by
      rw [s1, s2, e1, e2, rm_ok (by simp; omega) (by omega), rm_ok (by simp; omega) (by omega), rm_ok (by simp; omega) (by omega)]
      rfl
    unfold spec_l9Put
    rw [hr']
    simp only [Option.bind_some]
    by_cases hlt : k < out.length
    · rw [lt_ln hlt, inb_n hlt, gt_n hlt]
      simp only [cond_true, need_true, Option.bind_some]
      by_cases hx : out[k] = x
      · left
        rw [decide_eq_true hx, rm_ok (show 0 + out.length ≤ 2000000 by omega) (by omega)]
        exact ⟨rfl, by rw [← hx]; exact List.getElem_mem hlt⟩
      · right
        rw [decide_eq_false hx]
        exact put
    · right
      rw [ge_ln (show out.length ≤ k by omega)]
      exact put
  rcases new with ⟨h1, h2⟩ | h1
  · exact ⟨out, h1, by omega, fun t => ⟨.inl, fun h => h.elim _root_.id fun h => by rw [h]; exact h2⟩⟩
  · refine ⟨_, h1, by simp; omega, fun t => ?_⟩
    have : t ∈ out ↔ t ∈ out.take k ∨ t ∈ out.drop k := by
      conv => lhs; rw [← List.take_append_drop k out]
      exact List.mem_append
    simp only [List.mem_append, List.mem_singleton]
    rw [this]
    constructor
    · rintro ((h | h) | h)
      · exact .inl (.inl h)
      · exact .inr h
      · exact .inl (.inr h)
    · rintro ((h | h) | h)
      · exact .inl (.inl h)
      · exact .inr h
      · exact .inl (.inr h)
theorem lastHandA (l : List Hand) (t : Int) (hl : l.length ≤ 1048576) : impl_lastHand l t = some (lastIx l t l.length) := by
  have h := lastHandC l t l.length (Nat.le_refl _) hl
  rw [cut_take, List.take_length] at h
  exact h
theorem inHouse (l : List Hand) (house : Int) (hl : l.length ≤ 100) (c1 : spec_IsChain l = some true) (c2 : impl_IsChain l = some true) :
    ∃ r1 r2, spec_InHouse l house = some r1 ∧ impl_InHouse l house = some r2 ∧ (∀ t, t ∈ r1 ↔ t ∈ r2) ∧ r1.length ≤ 100 ∧ r2.length ≤ 100 := by
  have hat : ∀ i, i < l.length → ∃ j : Nat, j < l.length ∧ lastIx l (gt l (i : Int)).Thing l.length = (j : Int) := fun i hi => lastIx_ge l _ l.length i hi rfl
  obtain ⟨r1, a1, a2, a3⟩ := run_inv (n := l.length) (step := spec_InHouse_l3 l house) (fin := fun r => r)
    (fun i (out : List Int) => out.length ≤ i ∧ ∀ t, t ∈ out ↔ (∃ k, k < i ∧ (gt l (k : Int)).Thing = t) ∧ hm l house t = true)
    (fun i out hi ⟨ho, hq⟩ => by
      obtain ⟨j, hj, hj2⟩ := hat i hi
      simp only [spec_InHouse_l3, lt_ln hi, c1, inb_n hi, cond_true, need_true, Option.bind_some, w64_n (show (i : Int) < 9223372036854775807 by omega)]
      rw [show ln l = ((l.length : Nat) : Int) from rfl, l16Last l _ l.length (Nat.le_refl _) (by omega)]
      simp only [Option.bind_some]
      cases hb : hm l house (gt l (i : Int)).Thing with
      | true =>
        obtain ⟨out', p1, p2, p3⟩ := l9Put out (gt l (i : Int)).Thing (by omega)
        have hb' := hb
        unfold hm at hb'
        rw [hj2] at hb' ⊢
        rw [inb_n hj, hb']
        simp only [need_true, Option.bind_some, cond_true, p1]
        refine ⟨out', rfl, by omega, fun t => ?_⟩
        rw [p3 t, hq t]
        constructor
        · rintro (⟨⟨k, k1, k2⟩, h⟩ | rfl)
          · exact ⟨⟨k, by omega, k2⟩, h⟩
          · exact ⟨⟨i, by omega, rfl⟩, hb⟩
        · rintro ⟨⟨k, k1, k2⟩, h⟩
          by_cases hki : k = i
          · subst hki; exact .inr k2.symm
          · exact .inl ⟨⟨k, by omega, k2⟩, h⟩
      | false =>
        have hb' := hb
        unfold hm at hb'
        rw [hj2] at hb' ⊢
        rw [inb_n hj, hb']
        simp only [need_true, Option.bind_some, cond_false]
        refine ⟨out, rfl, by omega, fun t => ?_⟩
        rw [hq t]
        constructor
        · rintro ⟨⟨k, k1, k2⟩, h⟩
          exact ⟨⟨k, by omega, k2⟩, h⟩
        · rintro ⟨⟨k, k1, k2⟩, h⟩
          by_cases hki : k = i
          · subst hki; rw [k2, h] at hb; cases hb
          · exact ⟨⟨k, by omega, k2⟩, h⟩)
    (fun out _ => by simp only [spec_InHouse_l3, ge_ln (Nat.le_refl _), cond_false, Option.bind_some]) [] ⟨by simp, fun t => by simp⟩
  obtain ⟨r2, b1, b2, b3⟩ := run_inv (n := l.length) (step := impl_InHouse_l5 l house l (ln l)) (fin := fun r => r)
    (fun i (out : List Int) => out.length ≤ i ∧ ∀ t, t ∈ out ↔ ∃ k : Nat, k < i ∧ (gt l (k : Int)).Thing = t ∧ lastIx l t l.length = (k : Int) ∧ hm l house t = true)
    (fun i out hi ⟨ho, hq⟩ => by
      simp only [impl_InHouse_l5, lt_ln hi, inb_n hi, cond_true, need_true, lastHandA l _ (show l.length ≤ 1048576 by omega), Option.bind_some, w64_n (show (i : Int) < 9223372036854775807 by omega)]
      have hbv : (bif decide ((gt l (i : Int)).Holder = 2) then (bif decide ((gt l (i : Int)).Who = house) then some (decide (lastIx l (gt l (i : Int)).Thing l.length = (i : Int))) else some false) else some false) = some (decide (lastIx l (gt l (i : Int)).Thing l.length = (i : Int)) && hm l house (gt l (i : Int)).Thing) := by
        by_cases he : lastIx l (gt l (i : Int)).Thing l.length = (i : Int)
        · unfold hm
          rw [he]
          cases decide ((gt l (i : Int)).Holder = 2) <;> cases decide ((gt l (i : Int)).Who = house) <;> simp
        · rw [decide_eq_false he]
          cases decide ((gt l (i : Int)).Holder = 2) <;> cases decide ((gt l (i : Int)).Who = house) <;> rfl
      rw [hbv]
      simp only [Option.bind_some]
      cases hb : (decide (lastIx l (gt l (i : Int)).Thing l.length = (i : Int)) && hm l house (gt l (i : Int)).Thing) with
      | true =>
        simp only [Bool.and_eq_true, decide_eq_true_eq] at hb
        rw [rm_ok (show out.length + 1 ≤ 2000000 by omega) (by omega)]
        refine ⟨out ++ [(gt l (i : Int)).Thing], rfl, by simp; omega, fun t => ?_⟩
        simp only [List.mem_append, List.mem_singleton]
        rw [hq t]
        constructor
        · rintro (⟨k, k1, k2⟩ | rfl)
          · exact ⟨k, by omega, k2⟩
          · exact ⟨i, by omega, rfl, hb⟩
        · rintro ⟨k, k1, k2, k3⟩
          by_cases hki : k = i
          · subst hki; exact .inr k2.symm
          · exact .inl ⟨k, by omega, k2, k3⟩
      | false =>
        refine ⟨out, rfl, by omega, fun t => ?_⟩
        rw [hq t]
        constructor
        · rintro ⟨k, k1, k2⟩
          exact ⟨k, by omega, k2⟩
        · rintro ⟨k, k1, k2, k3, k4⟩
          by_cases hki : k = i
          · subst hki
            rw [k2, decide_eq_true k3, k4] at hb; cases hb
          · exact ⟨k, by omega, k2, k3, k4⟩)
    (fun out _ => by simp only [impl_InHouse_l5, ge_ln (Nat.le_refl _), cond_false]) [] ⟨by simp, fun t => by simp⟩
  have hperm : (sortI r2).Perm r2 := List.mergeSort_perm _ _
  refine ⟨r1, sortI r2, ?_, ?_, fun t => ?_, by omega, by rw [hperm.length_eq]; omega⟩
  · unfold spec_InHouse
    rw [a1]; rfl
  · unfold impl_InHouse
    rw [c2]
    simp only [Option.bind_some, Bool.not_true, cond_false]
    rw [b1]
    simp only [Option.bind_some]
    rw [decide_eq_true (by omega)]; rfl
  · rw [hperm.mem_iff, a3 t, b3 t]
    constructor
    · rintro ⟨⟨k, k1, k2⟩, h⟩
      obtain ⟨j, j1, j2⟩ := lastIx_ge l t l.length k k1 k2
      exact ⟨j, j1, (lastIx_thing l t l.length j j2).2, j2, h⟩
    · rintro ⟨k, k1, k2, k3, k4⟩
      exact ⟨⟨k, k1, k2⟩, k4⟩
theorem hasS (l : List Int) (v : Int) (hl : l.length ≤ 1048576) : spec_l8Has l v = some (decide (v ∈ l)) := by
  have hr := run_any l (fun x => decide (x = v)) (r := true) (step := spec_l8Has_l2 l v)
    (fun i hi => by
      simp only [spec_l8Has_l2, lt_ln hi, inb_n hi, gt_n hi, w64_n (show (i : Int) < 9223372036854775807 by omega), cond_true, need_true]
      cases decide (l[i] = v) <;> rfl)
    (by simp only [spec_l8Has_l2, ge_ln (Nat.le_refl _), cond_false])
  unfold spec_l8Has
  rw [hr]
  by_cases h : v ∈ l
  · rw [decide_eq_true h, List.any_eq_true.2 ⟨v, h, by simp⟩]; rfl
  · rw [decide_eq_false h, List.any_eq_false.2 (fun x hx => by simp; rintro rfl; exact h hx)]; rfl
theorem hasI (l : List Int) (v : Int) (hl : l.length ≤ 1048576) : slices_Contains_int l v = some (decide (v ∈ l)) := by
  have hi := run_find l (fun x => decide (v = x)) (fun i => (i : Int)) (step := slices_Index_int_l2 l v (ln l))
    (fun i hi => by
      simp only [slices_Index_int_l2, lt_ln hi, inb_n hi, gt_n hi, w64_n (show (i : Int) < 9223372036854775807 by omega), cond_true, need_true]
      cases decide (v = l[i]) <;> rfl)
    (by simp only [slices_Index_int_l2, ge_ln (Nat.le_refl _), cond_false])
  unfold slices_Contains_int slices_Index_int
  rw [hi]
  cases hf : l.findIdx? (fun x => decide (v = x)) with
  | none =>
    have : ¬ v ∈ l := fun h => by
      have := List.findIdx?_eq_none_iff.1 hf v h
      simp at this
    rw [decide_eq_false this]; rfl
  | some i =>
    obtain ⟨hi', hp⟩ := find_at hf
    have : v ∈ l := by
      have e : v = l[i] := by simpa using hp
      rw [e]; exact List.getElem_mem hi'
    rw [decide_eq_true this]
    show some (decide (0 ≤ (i : Int))) = _
    rw [decide_eq_true (by omega)]
theorem slotOfS (l : List Slot) (t : Int) (hl : l.length ≤ 1048576) (hid : ∀ x ∈ l, 1 ≤ x.Id) : ∃ c, spec_SlotOf l t = some c ∧ decide (c = 0) = !(!decide (t = 0) && l.any (fun x => decide (x.Thing = t))) := by
  have hr := run_find l (fun x => !decide (t = 0) && decide (x.Thing = t)) (fun i => (gt l (i : Int)).Id) (step := spec_SlotOf_l2 l t)
    (fun i hi => by
      simp only [spec_SlotOf_l2, lt_ln hi, inb_n hi, gt_n hi, w64_n (show (i : Int) < 9223372036854775807 by omega), cond_true, need_true]
      cases decide (t = 0) <;> cases decide (l[i].Thing = t) <;> rfl)
    (by simp only [spec_SlotOf_l2, ge_ln (Nat.le_refl _), cond_false])
  unfold spec_SlotOf
  rw [hr]
  cases hf : l.findIdx? (fun x => !decide (t = 0) && decide (x.Thing = t)) with
  | none =>
    refine ⟨0, rfl, ?_⟩
    have := List.findIdx?_eq_none_iff.1 hf
    cases ht : decide (t = 0) with
    | true => rfl
    | false =>
      rw [ht] at this
      have : l.any (fun x => decide (x.Thing = t)) = false := by
        rw [List.any_eq_false]
        intro x hx
        have := this x hx
        simpa using this
      rw [this]; rfl
  | some i =>
    obtain ⟨hi', hp⟩ := find_at hf
    refine ⟨(gt l (i : Int)).Id, rfl, ?_⟩
    simp only [Bool.and_eq_true] at hp
    rw [gt_n hi', decide_eq_false (by have := hid l[i] (List.getElem_mem hi'); omega), hp.1, List.any_eq_true.2 ⟨l[i], List.getElem_mem hi', hp.2⟩]
    rfl
theorem isTrialB (x : Trial) : ∃ b, spec_IsTrial x = some b ∧ impl_IsTrial x = some b := by
  have e : impl_IsTrial x = spec_IsTrial x := rfl
  rw [e]
  unfold spec_IsTrial spec_l1In
  simp only [Option.bind_some]
  cases (decide (1 ≤ x.Claim) && decide (x.Claim ≤ 999)) <;> cases (decide (0 ≤ x.Right) && decide (x.Right ≤ 100)) <;> exact ⟨_, rfl, rfl⟩
theorem marksOf (l : List Secret) (t : Int) (hl : l.length ≤ 1048576) (hm : ∀ x ∈ l, x.Marks.length ≤ 1048576) : ∃ m, spec_MarksOf l t = some m ∧ impl_MarksOf l t = some m ∧ m.length ≤ 1048576 := by
  have hs := run_find l (fun x => decide (x.Thing = t)) (fun i => (i : Int)) (step := spec_l31Find_l2 l t)
    (fun i hi => by
      simp only [spec_l31Find_l2, lt_ln hi, inb_n hi, gt_n hi, w64_n (show (i : Int) < 9223372036854775807 by omega), cond_true, need_true]
      cases decide (l[i].Thing = t) <;> rfl)
    (by simp only [spec_l31Find_l2, ge_ln (Nat.le_refl _), cond_false])
  have hi := run_find l (fun x => decide (x.Thing = t)) (fun i => (i : Int)) (step := slices_IndexFunc_Secret_cimpl_secretOf_1_l2 l t (ln l))
    (fun i hi => by
      simp only [slices_IndexFunc_Secret_cimpl_secretOf_1_l2, impl_secretOf_1, Option.bind_some, lt_ln hi, inb_n hi, gt_n hi, w64_n (show (i : Int) < 9223372036854775807 by omega), cond_true, need_true]
      cases decide (l[i].Thing = t) <;> rfl)
    (by simp only [slices_IndexFunc_Secret_cimpl_secretOf_1_l2, ge_ln (Nat.le_refl _), cond_false])
  unfold spec_MarksOf impl_MarksOf spec_l31Find impl_secretOf slices_IndexFunc_Secret_cimpl_secretOf_1
  rw [hs, hi]
  cases hf : l.findIdx? (fun x => decide (x.Thing = t)) with
  | none => exact ⟨[], rfl, rfl, by simp⟩
  | some i =>
    obtain ⟨hi', _⟩ := find_at hf
    have hmi := hm l[i] (List.getElem_mem hi')
    refine ⟨l[i].Marks, ?_, ?_, hmi⟩
    · simp only [Option.bind_some, evO_r, show decide ((i : Int) < 0) = false from decide_eq_false (by omega), cond_false, inb_n hi', gt_n hi', need_true, rm_ok (show 0 + l[i].Marks.length ≤ 2000000 by omega) (show 16 ≤ 1024 by omega)]
    · simp only [Option.bind_some, evO_r, show decide ((i : Int) < 0) = false from decide_eq_false (by omega), cond_false, inb_n hi', gt_n hi', need_true, slices_Clone_Mark, rm_ok (show 0 + l[i].Marks.length ≤ 2000000 by omega) (show 16 ≤ 1024 by omega)]
theorem trialState (l : List Mark) (x : Trial) (hl : l.length ≤ 1048576) : ∃ c, spec_TrialState l x = some c ∧ impl_TrialState l x = some c := by
  obtain ⟨b, b1, b2⟩ := isTrialB x
  obtain ⟨m, m1, m2⟩ := areMarks l (by omega)
  have need : spec_NeedFor l = impl_NeedFor l := by
    unfold spec_NeedFor impl_NeedFor spec_Min
    by_cases h : ln l < 3
    · rw [decide_eq_true h, if_pos h]; rfl
    · rw [decide_eq_false h, if_neg h]; rfl
  unfold spec_TrialState impl_TrialState
  rw [b1, b2, m1, m2, need]
  unfold impl_NeedFor
  cases b <;> cases m <;> cases decide (1 < x.Wrong) <;> cases decide (0 < ln l) <;> simp only [Option.bind_some, Bool.not_true, Bool.not_false, cond_true, cond_false, Bool.or_true, Bool.or_false, Bool.true_or, Bool.false_or] <;>
    first | exact ⟨_, rfl, rfl⟩ | (cases decide ((if ln l < 3 then ln l else 3) ≤ x.Right) <;> exact ⟨_, rfl, rfl⟩)
theorem latest_run {α : Type} (l : List α) (hour : α → Int) (now : Int) {step : Int × Int → Option ((Int × Int) ⊕ Int)}
    (h1 : ∀ (i : Nat) (v : Int) (h : i < l.length), step (v, (i : Int)) = some (.inl ((if v < hour l[i] then hour l[i] else v), ((i + 1 : Nat) : Int)))) (h2 : ∀ v, step (v, (l.length : Int)) = some (.inr v)) (v0 : Int) :
    ∃ v, run step (v0, 0) = some v ∧ (v ≤ now ↔ v0 ≤ now ∧ ∀ x ∈ l, hour x ≤ now) := by
  obtain ⟨v, q1, q2⟩ := run_inv (n := l.length) (step := step) (fin := fun v => v) (fun i v => v ≤ now ↔ v0 ≤ now ∧ ∀ x ∈ l.take i, hour x ≤ now)
    (fun i v hi hq => by
      refine ⟨_, h1 i v hi, ?_⟩
      rw [List.take_succ_eq_append_getElem hi]
      have : (∀ x ∈ l.take i ++ [l[i]], hour x ≤ now) ↔ (∀ x ∈ l.take i, hour x ≤ now) ∧ hour l[i] ≤ now := by
        simp only [List.mem_append, List.mem_singleton]
        constructor
        · intro h; exact ⟨fun x hx => h x (.inl hx), h _ (.inr rfl)⟩
        · rintro ⟨h, h'⟩ x (hx | rfl)
          · exact h x hx
          · exact h'
      rw [this]
      constructor
      · intro hv
        have h3 : v ≤ now ∧ hour l[i] ≤ now := by split at hv <;> omega
        exact ⟨(hq.1 h3.1).1, (hq.1 h3.1).2, h3.2⟩
      · rintro ⟨a, b, c⟩
        have := hq.2 ⟨a, b⟩
        split <;> omega) (fun v _ => h2 v) v0 (by simp)
  exact ⟨v, q1, by rw [List.take_length] at q2; exact q2⟩
theorem latest (h : House) (now : Int) (m1 : h.Finds.length ≤ 1048576) (m2 : h.Claims.length ≤ 1048576) (m3 : h.Chain.length ≤ 1048576) (m4 : h.Book.length ≤ 1048576) :
    ∃ v, impl_latest h = some v ∧ (v ≤ now ↔ -1 ≤ now ∧ (∀ x ∈ h.Finds, x.At ≤ now) ∧ (∀ x ∈ h.Claims, x.At ≤ now) ∧ (∀ x ∈ h.Chain, x.At ≤ now) ∧ ∀ x ∈ h.Book, x.At ≤ now) := by
  obtain ⟨v1, a1, a2⟩ := latest_run h.Finds (·.At) now (step := impl_latest_l3 h h.Finds (ln h.Finds)) (fun i v hi => by simp only [impl_latest_l3, lt_ln hi, inb_n hi, gt_n hi, w64_n (show (i : Int) < 9223372036854775807 by omega), cond_true, need_true])
    (fun v => by simp only [impl_latest_l3, ge_ln (Nat.le_refl _), cond_false]) (-1)
  obtain ⟨v2, b1, b2⟩ := latest_run h.Claims (·.At) now (step := impl_latest_l8 h h.Claims (ln h.Claims)) (fun i v hi => by simp only [impl_latest_l8, lt_ln hi, inb_n hi, gt_n hi, w64_n (show (i : Int) < 9223372036854775807 by omega), cond_true, need_true])
    (fun v => by simp only [impl_latest_l8, ge_ln (Nat.le_refl _), cond_false]) v1
  obtain ⟨v3, c1, c2⟩ := latest_run h.Chain (·.At) now (step := impl_latest_l13 h h.Chain (ln h.Chain)) (fun i v hi => by simp only [impl_latest_l13, lt_ln hi, inb_n hi, gt_n hi, w64_n (show (i : Int) < 9223372036854775807 by omega), cond_true, need_true])
    (fun v => by simp only [impl_latest_l13, ge_ln (Nat.le_refl _), cond_false]) v2
  obtain ⟨v4, d1, d2⟩ := latest_run h.Book (·.At) now (step := impl_latest_l18 h.Book (ln h.Book)) (fun i v hi => by simp only [impl_latest_l18, lt_ln hi, inb_n hi, gt_n hi, w64_n (show (i : Int) < 9223372036854775807 by omega), cond_true, need_true])
    (fun v => by simp only [impl_latest_l18, ge_ln (Nat.le_refl _), cond_false]) v3
  refine ⟨v4, ?_, ?_⟩
  · unfold impl_latest
    rw [a1]; simp only [Option.bind_some]
    rw [b1]; simp only [Option.bind_some]
    rw [c1]; simp only [Option.bind_some]
    rw [d1]; rfl
  · rw [d2, c2, b2, a2]
    simp only [and_assoc]
end Go.Proofs.YtcdffihcfeajfaaGreat
