/- An answer to a trial. The program's answers are the reference's. No condition but the length. -/
import Derived.Test.YtcdffihcfeajfaaGreatPyFc
import Derived.Test.YtcdffihcfeajfaaGreatPyStp
namespace Go.Proofs.YtcdffihcfeajfaaGreat
open Go
set_option linter.unusedVariables false
set_option linter.unusedSimpArgs false
/-- A claim that is open becomes proved or refused. -/
theorem setState_open (l : List Claim) (id s : Int) (k : Nat) (hk : k < l.length) (hid : claimIx l id = (k : Int)) (h0 : l[k].State = 0) (hs : s = 1 ∨ s = 2) (hl : l.length ≤ 1048576) (h : spec_AreClaims l = some true) (hI : impl_AreClaims l = some true) :
    impl_SetState l id s = some (l.set k ⟨l[k].Id, l[k].Who, l[k].Thing, l[k].At, s⟩, true) := by
  obtain ⟨d, d1, d2, d3⟩ := areClaims (l.set k ⟨l[k].Id, l[k].Who, l[k].Thing, l[k].At, s⟩) (by rw [List.length_set]; omega)
  rw [claims_set l k hk s hs hl h] at d1
  cases d1
  unfold impl_SetState slices_Clone_Claim
  have hrm : rm (0 + l.length) 40 = true := rm_ok (by omega) (by omega)
  simp only [hrm, need_true, (findClaim l id hl).2, hI, Option.bind_some, hid, decide_eq_false (show ¬ (k : Int) < 0 by omega), cond_false, Bool.not_true, inb_n hk, gt_n hk, Int.toNat_natCast, d2, h0, decide_true, cond_true]
  rcases hs with rfl | rfl <;> rfl
/-- Trials. -/
theorem hash_one (x : Int) : ∃ c, spec_Hash [x] = some c ∧ impl_Hash [x] = some c ∧ 0 ≤ c ∧ c < 2147483647 := by
  obtain ⟨c, hc, h0, h1⟩ : ∃ c, spec_Mod x 2147483647 = some c ∧ 0 ≤ c ∧ c < 2147483647 := by
    rw [mod_eq]
    obtain ⟨h1, h2⟩ := tmod_bounds x (m := 2147483647) (by omega)
    unfold impl_Mod impl_InRange
    simp only [Option.bind_some, show (decide ((1 : Int) ≤ 2147483647) && decide ((2147483647 : Int) ≤ 1000000000000)) = true from rfl, Bool.not_true, cond_false, show (!decide ((2147483647 : Int) = 0)) = true from rfl, need_true]
    generalize x.tmod 2147483647 = t at h1 h2
    by_cases ht : t < 0
    · rw [decide_eq_true ht]; exact ⟨_, rfl, by rw [w64_in] <;> omega, by rw [w64_in] <;> omega⟩
    · rw [decide_eq_false ht]; exact ⟨_, rfl, by omega, by omega⟩
  have hs : spec_Hash [x] = some ((11000033 + c + 13).tmod 2147483647) := by
    unfold spec_Hash
    have hr := run_traj (step := spec_Hash_l3 [x]) (fun i => if i = 0 then (11, 0) else ((11000033 + c + 13).tmod 2147483647, 1)) (r := (11000033 + c + 13).tmod 2147483647) 1 (fun i hi => by
      have : i = 0 := by omega
      subst this
      simp only [spec_Hash_l3, if_true, show decide ((0 : Int) < ln [x]) = true from rfl, show inb [x] 0 = true from rfl, show gt [x] (0 : Int) = x from rfl, cond_true, need_true, hc, Option.bind_some, show ¬ (0 + 1 = 0) from by omega, if_false]
      rw [show w64 (11 * 1000003) = 11000033 from rfl, show w64 (0 + 1) = 1 from rfl, w64_in (show _ ≤ 11000033 + c by omega) (by omega), w64_in (show _ ≤ 11000033 + c + 13 by omega) (by omega)])
      (by simp only [spec_Hash_l3, show ¬ (1 = 0) from by omega, if_false]; rfl)
    rw [show run (spec_Hash_l3 [x]) (11, 0) = _ from hr]; rfl
  refine ⟨_, hs, by rw [← hash_eq, hs], Int.tmod_nonneg _ (by omega), Int.tmod_lt_of_pos _ (by omega)⟩
theorem questionFor (l : List Mark) (c v : Int) (hl : l.length ≤ 1048576) : ∃ q, spec_QuestionFor l c v = some q ∧ impl_QuestionFor l c v = some q := by
  obtain ⟨m, m1, m2⟩ := areMarks l (by omega)
  obtain ⟨c', c1, c2, c3, c4⟩ := hash_one c
  unfold spec_QuestionFor impl_QuestionFor spec_l1In impl_InRange
  simp only [m1, m2, Option.bind_some]
  by_cases h0 : ln l = 0
  · rw [decide_eq_true h0]; exact ⟨0, rfl, rfl⟩
  · rw [decide_eq_false h0]
    have hpos : 0 < ln l := by rw [ln_eq] at h0 ⊢; omega
    cases m with
    | false => exact ⟨0, rfl, rfl⟩
    | true =>
      cases hv : (decide (0 ≤ v) && decide (v ≤ 1000)) with
      | false => exact ⟨0, rfl, rfl⟩
      | true =>
        simp only [Bool.and_eq_true, decide_eq_true_eq] at hv
        have hb := Int.tmod_lt_of_pos c' hpos
        have hn := Int.tmod_nonneg (ln l) c3
        have hle : ln l ≤ 1048576 := by rw [ln_eq]; omega
        have hmod : spec_Mod c' (ln l) = some (c'.tmod (ln l)) := by
          unfold spec_Mod spec_l1In
          simp only [Option.bind_some, show (decide (1 ≤ ln l) && decide (ln l ≤ 1000000000000)) = true from by rw [decide_eq_true (show 1 ≤ ln l by omega), decide_eq_true (show ln l ≤ 1000000000000 by omega)]; rfl, Bool.not_true, cond_false, decide_eq_false h0, Bool.not_false, need_true]
          rw [w64_in (by omega) (by omega), Int.tmod_eq_emod_of_nonneg (show 0 ≤ c'.tmod (ln l) + ln l by omega), Int.add_emod_right, Int.emod_eq_of_lt hn hb]
        have hin : inb l ((w64 (c'.tmod (ln l) + v)).tmod (ln l)) = true := by
          rw [w64_in (by omega) (by omega), inb_iff]
          exact ⟨Int.tmod_nonneg _ (by omega), by have := Int.tmod_lt_of_pos (c'.tmod (ln l) + v) hpos; rw [ln_eq] at this; exact this⟩
        simp only [c1, c2, hmod, Option.bind_some, cond_false, Bool.not_true, Bool.not_false, need_true, hin]
        exact ⟨_, rfl, rfl⟩
theorem nextQuestion (l : List Mark) (x : Trial) (hl : l.length ≤ 1048576) : ∃ q, spec_NextQuestion l x = some q ∧ impl_NextQuestion l x = some q := by
  obtain ⟨s, s1, s2⟩ := trialState l x hl
  obtain ⟨q, q1, q2⟩ := questionFor l x.Claim x.Asked hl
  unfold spec_NextQuestion impl_NextQuestion
  simp only [s1, s2, q1, q2, Option.bind_some]
  cases decide (s = 0) <;> exact ⟨_, rfl, rfl⟩
theorem answerOf (l : List Mark) (q : Int) (hl : l.length ≤ 1048576) : ∃ a, spec_AnswerOf l q = some a ∧ impl_AnswerOf l q = some a := by
  have hs := run_find l (fun x => decide (x.Question = q)) (fun i => (gt l (i : Int)).Answer) (step := spec_AnswerOf_l2 l q)
    (fun i hi => by
      simp only [spec_AnswerOf_l2, lt_ln hi, inb_n hi, gt_n hi, w64_n (show (i : Int) < 9223372036854775807 by omega), cond_true, need_true]
      cases decide (l[i].Question = q) <;> rfl)
    (by simp only [spec_AnswerOf_l2, ge_ln (Nat.le_refl _), cond_false])
  have hi := run_find l (fun x => decide (x.Question = q)) (fun i => (gt l (i : Int)).Answer) (step := impl_AnswerOf_l2 q l (ln l))
    (fun i hi => by
      simp only [impl_AnswerOf_l2, lt_ln hi, inb_n hi, gt_n hi, w64_n (show (i : Int) < 9223372036854775807 by omega), cond_true, need_true]
      cases decide (l[i].Question = q) <;> rfl)
    (by simp only [impl_AnswerOf_l2, ge_ln (Nat.le_refl _), cond_false])
  unfold spec_AnswerOf impl_AnswerOf
  rw [hs, hi]
  cases l.findIdx? (fun x => decide (x.Question = q)) <;> exact ⟨_, rfl, rfl⟩
theorem giveAnswer (l : List Mark) (x : Trial) (a : Int) (hl : l.length ≤ 1048576) : ∃ r, spec_GiveAnswer l x a = some r ∧ impl_GiveAnswer l x a = some r := by
  obtain ⟨q, q1, q2⟩ := nextQuestion l x hl
  obtain ⟨b, b1, b2⟩ := answerOf l q hl
  unfold spec_GiveAnswer impl_GiveAnswer
  simp only [q1, q2, b1, b2, Option.bind_some]
  cases decide (q = 0) <;> cases decide (b = a) <;> exact ⟨_, rfl, rfl⟩
theorem stepAnswer (h : House) (id a : Int) (hm : sm_House h) : ∃ r, spec_StepAnswer h id a = some r ∧ impl_StepAnswer h id a = some r ∧ sm_House r.1 := by
  have hm7 := hm
  obtain ⟨m1, m2, m3, m4, m5, m6, m7⟩ := hm7
  unfold spec_StepAnswer impl_StepAnswer
  simp only [l33Copy h hm, cloneHouse h hm, (findClaim h.Claims id m4).1, (findClaim h.Claims id m4).2, (houseB_eq h hm).1, (houseB_eq h hm).2, Option.bind_some]
  rcases claimIx_at h.Claims id with hx | ⟨k, hk, hx, hid⟩
  · rw [hx]
    refine ⟨(h, false), rfl, ?_, hm⟩
    cases houseB h <;> rfl
  · rw [hx, decide_eq_false (show ¬ (k : Int) < 0 by omega)]
    cases hb : houseB h with
    | false => exact ⟨(h, false), rfl, rfl, hm⟩
    | true =>
      have ho := houseB_ok h hm hb
      simp only [cond_false, Bool.not_true, inb_n hk, gt_n hk, need_true, Option.bind_some]
      by_cases h0 : h.Claims[k].State = 0
      · have hkt : k < h.Trials.length := by rw [trials_len h ho.trials]; exact hk
        obtain ⟨m, k1, k2, k3⟩ := marksOf h.Secrets h.Claims[k].Thing m2.1 (fun x hx => m2.2 x hx)
        obtain ⟨g, g1, g2⟩ := giveAnswer m h.Trials[k] a k3
        obtain ⟨s, s1, s2⟩ := trialState m g.1 k3
        have hl1 : (h.Trials.set k g.1).length ≤ 1048576 := by rw [List.length_set]; exact m5
        have hl2 : ∀ s : Int, (h.Claims.set k ⟨h.Claims[k].Id, h.Claims[k].Who, h.Claims[k].Thing, h.Claims[k].At, s⟩).length ≤ 1048576 := fun s => by rw [List.length_set]; exact m4
        have w1 : sm_House ⟨h.No, h.Finds, h.Secrets, h.Slots, h.Claims.set k ⟨h.Claims[k].Id, h.Claims[k].Who, h.Claims[k].Thing, h.Claims[k].At, 1⟩, h.Trials.set k g.1, h.Chain, h.Book, h.Now⟩ := smH hm m1 m2 m3 (hl2 1) hl1 m6 m7
        have w2 : sm_House ⟨h.No, h.Finds, h.Secrets, h.Slots, h.Claims.set k ⟨h.Claims[k].Id, h.Claims[k].Who, h.Claims[k].Thing, h.Claims[k].At, 2⟩, h.Trials.set k g.1, h.Chain, h.Book, h.Now⟩ := smH hm m1 m2 m3 (hl2 2) hl1 m6 m7
        have w3 : sm_House ⟨h.No, h.Finds, h.Secrets, h.Slots, h.Claims, h.Trials.set k g.1, h.Chain, h.Book, h.Now⟩ := smH hm m1 m2 m3 m4 hl1 m6 m7
        simp only [h0, decide_true, Bool.not_true, cond_false, k1, k2, g1, g2, s1, s2, inb_n hkt, gt_n hkt, need_true, Option.bind_some, Int.toNat_natCast,
          setState_open h.Claims id 1 k hk hx h0 (.inl rfl) m4 ho.cS ho.cI, setState_open h.Claims id 2 k hk hx h0 (.inr rfl) m4 ho.cS ho.cI, l34Done h _ _ hm w1, l34Done h _ _ hm w2, l34Done h _ _ hm w3,
          stepped h _ _ hm w1 (show [g.2].length ≤ 1048576 by simp), stepped h _ _ hm w2 (show [g.2].length ≤ 1048576 by simp), stepped h _ _ hm w3 (show [g.2].length ≤ 1048576 by simp), List.all_cons, List.all_nil, Bool.and_true, id_eq]
        cases decide (s = 1) with
        | true => exact ⟨_, rfl, rfl, stepR_sm _ _ _ hm w1⟩
        | false => cases decide (s = 2) with
          | true => exact ⟨_, rfl, rfl, stepR_sm _ _ _ hm w2⟩
          | false => exact ⟨_, rfl, rfl, stepR_sm _ _ _ hm w3⟩
      · simp only [decide_eq_false h0, Bool.not_false, cond_true]
        exact ⟨(h, false), rfl, rfl, hm⟩
end Go.Proofs.YtcdffihcfeajfaaGreat
