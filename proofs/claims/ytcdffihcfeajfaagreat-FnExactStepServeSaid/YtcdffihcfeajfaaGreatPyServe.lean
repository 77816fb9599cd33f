/- A thing served. The program's answers are the reference's. No condition but the length. -/
import Derived.Test.YtcdffihcfeajfaaGreatPyProved
import Derived.Test.YtcdffihcfeajfaaGreatPySet
import Derived.Test.YtcdffihcfeajfaaGreatPyStp
namespace Go.Proofs.YtcdffihcfeajfaaGreat
open Go
set_option linter.unusedVariables false
set_option linter.unusedSimpArgs false
theorem addEntry (l : List Entry) (x : Entry) (hl : l.length ≤ 1048576) : ∃ r, spec_AddEntry l x = some r ∧ impl_AddEntry l x = some r ∧ r.1.length ≤ 1048576 := by
  have hrm : rm (0 + l.length) 32 = true := rm_ok (by omega) (by omega)
  have hrm1 : rm (l.length + 1) 32 = true := rm_ok (by omega) (by omega)
  obtain ⟨b, b1, b2, b3⟩ := areEntriesL (l ++ [x]) (by simp; omega)
  unfold spec_AddEntry impl_AddEntry slices_Clone_Entry
  simp only [hrm, hrm1, need_true, Option.bind_some, b1, b2]
  cases b with
  | false => exact ⟨(l, false), rfl, rfl, hl⟩
  | true => exact ⟨_, rfl, rfl, by have := (b3 rfl).1; show (l ++ _).length ≤ _; omega⟩
theorem feeFor (x : Thing) (d : Int) : ∃ c, spec_FeeFor x d = some c ∧ impl_FeeFor x d = some c := by
  unfold spec_FeeFor impl_FeeFor
  rw [show impl_IsThing x = spec_IsThing x from rfl]
  obtain ⟨b, b1, _, _⟩ := isThingB x
  rw [b1]
  simp only [Option.bind_some, spec_l1In, impl_InRange]
  cases b with
  | false => exact ⟨0, rfl, rfl⟩
  | true =>
    cases hd : (decide (0 ≤ d) && decide (d ≤ 1000)) with
    | false => exact ⟨0, rfl, rfl⟩
    | true =>
      simp only [Bool.and_eq_true, decide_eq_true_eq] at hd
      have hw : 0 ≤ x.Worth ∧ x.Worth ≤ 10000000 := by
        unfold spec_IsThing spec_l1In at b1
        simp only [Option.bind_some] at b1
        revert b1
        cases (decide (1 ≤ x.Id) && decide (x.Id ≤ 999)) <;> cases (decide (1 ≤ x.Kind) && decide (x.Kind ≤ 8)) <;> cases (decide (0 ≤ x.Colour) && decide (x.Colour ≤ 7)) <;> cases (decide (1 ≤ x.Size) && decide (x.Size ≤ 50)) <;> simp
      have ht0 := Int.tdiv_nonneg hw.1 (show (0 : Int) ≤ 10 by omega)
      have ht1 : x.Worth.tdiv 10 ≤ x.Worth := by
        rw [Int.tdiv_eq_ediv_of_nonneg hw.1]; omega
      simp only [Bool.not_true, cond_false, Option.bind_some, spec_Min]
      rw [w64_in (show _ ≤ 10 * d by omega) (by omega), w64_in (show _ ≤ 100 + 10 * d by omega) (by omega), w64_in (show _ ≤ x.Worth.tdiv 10 by omega) (by omega)]
      by_cases h : x.Worth.tdiv 10 < 100 + 10 * d
      · rw [decide_eq_true h, if_pos h]
        refine ⟨_, rfl, ?_⟩
        by_cases h' : 0 < x.Worth.tdiv 10
        · rw [if_pos h']
        · rw [if_neg h']; congr 1; omega
      · rw [decide_eq_false h, if_neg h]
        refine ⟨_, rfl, ?_⟩
        rw [if_pos (by omega)]
theorem stepR_and (h out : House) (a : Bool) : stepR h out (a && false) = (h, false) := by rw [Bool.and_false]; rfl
theorem stepServe (h : House) (t : Int) (hm : sm_House h) : ∃ r, spec_StepServe h t = some r ∧ impl_StepServe h t = some r ∧ sm_House r.1 := by
  have hm7 := hm
  obtain ⟨m1, m2, m3, m4, m5, m6, m7⟩ := hm7
  obtain ⟨p, p1, p2, p3⟩ := firstProved h.Claims t m4
  obtain ⟨w, w1, w2⟩ := slotWith_in h.Slots t m3
  unfold spec_StepServe impl_StepServe impl_findIn
  simp only [p1, p2, (findThing h.Finds t m1).1, (findThing h.Finds t m1).2, (houseB_eq h hm).1, (houseB_eq h hm).2, l33Copy h hm, cloneHouse h hm, w1, w2, Option.bind_some]
  rcases findIx_at h.Finds t with hx | ⟨k, hk, hx⟩
  · rw [hx]
    refine ⟨(h, false), ?_, ?_, hm⟩
    · cases decide (p = 0) <;> rfl
    · cases houseB h <;> rfl
  · rw [hx, decide_eq_false (show ¬ (k : Int) < 0 by omega)]
    cases hb : houseB h with
    | false => exact ⟨(h, false), by cases decide (p = 0) <;> rfl, rfl, hm⟩
    | true =>
      by_cases hp : p = 0
      · rw [decide_eq_true hp]
        refine ⟨(h, false), rfl, ?_, hm⟩
        cases inSlot h.Slots t with
        | false => rfl
        | true => simp only [inb_n hk, need_true]; rfl
      · rw [decide_eq_false hp]
        obtain ⟨j, hj, hjd⟩ := p3.resolve_left hp
        obtain ⟨c, hc, hcx, hcid⟩ := claimIx_has h.Claims p j hj hjd
        obtain ⟨g, g1, g2, g3, g4, g5, g6, g7⟩ := handed h t 3 h.Claims[c].Who hm
        obtain ⟨s, s1, s2, s3⟩ := setState h.Claims p 3 m4
        obtain ⟨f, f1, f2⟩ := feeFor (h.Finds[k]).Thing (w64 ((w64 (h.Now - (h.Finds[k]).At)).tdiv 24))
        obtain ⟨e, e1, e2, e3⟩ := addEntry h.Book ⟨h.Claims[c].Who, 0, f, h.Now⟩ m7
        have hm7' := g3
        obtain ⟨n1, n2, n3, n4, n5, n6, n7⟩ := hm7'
        have o1 : sm_House ⟨g.1.No, g.1.Finds, g.1.Secrets, g.1.Slots, s.1, g.1.Trials, g.1.Chain, g.1.Book, g.1.Now⟩ := ⟨n1, n2, n3, by show s.1.length ≤ _; omega, n5, n6, n7⟩
        have o2 : sm_House ⟨g.1.No, g.1.Finds, g.1.Secrets, g.1.Slots, s.1, g.1.Trials, g.1.Chain, e.1, g.1.Now⟩ := ⟨n1, n2, n3, by show s.1.length ≤ _; omega, n5, n6, e3⟩
        have hpay : spec_l34Pay ⟨g.1.No, g.1.Finds, g.1.Secrets, g.1.Slots, s.1, g.1.Trials, g.1.Chain, g.1.Book, g.1.Now⟩ h.Claims[c].Who 0 f =
            some (bif decide (f = 0) then (⟨g.1.No, g.1.Finds, g.1.Secrets, g.1.Slots, s.1, g.1.Trials, g.1.Chain, g.1.Book, g.1.Now⟩, true) else (⟨g.1.No, g.1.Finds, g.1.Secrets, g.1.Slots, s.1, g.1.Trials, g.1.Chain, e.1, g.1.Now⟩, e.2)) := by
          unfold spec_l34Pay
          simp only [g5, g6, e1, Option.bind_some]
          cases decide (f = 0) <;> rfl
        have hin : (bif inSlot h.Slots t then g.2 else false) = g.2 := by
          cases hi : inSlot h.Slots t with
          | true => rfl
          | false => rw [g4 hi]; rfl
        simp only [cond_false, Bool.not_true, Option.bind_some, (findClaim h.Claims p m4).1, (findClaim h.Claims p m4).2, hcx, inb_n hc, gt_n hc, inb_n hk, gt_n hk, need_true, g1, s1, f1, hpay]
        have hspec : ∀ b : Bool, (bif b then (bif s.2 then (spec_l34Done h (bif decide (f = 0) then (⟨g.1.No, g.1.Finds, g.1.Secrets, g.1.Slots, s.1, g.1.Trials, g.1.Chain, g.1.Book, g.1.Now⟩, true) else (⟨g.1.No, g.1.Finds, g.1.Secrets, g.1.Slots, s.1, g.1.Trials, g.1.Chain, e.1, g.1.Now⟩, e.2) : House × Bool).1 (bif decide (f = 0) then (⟨g.1.No, g.1.Finds, g.1.Secrets, g.1.Slots, s.1, g.1.Trials, g.1.Chain, g.1.Book, g.1.Now⟩, true) else (⟨g.1.No, g.1.Finds, g.1.Secrets, g.1.Slots, s.1, g.1.Trials, g.1.Chain, e.1, g.1.Now⟩, e.2) : House × Bool).2).bind fun r10 => some (r10.1, r10.2) else (spec_l34Done h (bif decide (f = 0) then (⟨g.1.No, g.1.Finds, g.1.Secrets, g.1.Slots, s.1, g.1.Trials, g.1.Chain, g.1.Book, g.1.Now⟩, true) else (⟨g.1.No, g.1.Finds, g.1.Secrets, g.1.Slots, s.1, g.1.Trials, g.1.Chain, e.1, g.1.Now⟩, e.2) : House × Bool).1 false).bind fun r11 => some (r11.1, r11.2)) else (spec_l34Done h (bif decide (f = 0) then (⟨g.1.No, g.1.Finds, g.1.Secrets, g.1.Slots, s.1, g.1.Trials, g.1.Chain, g.1.Book, g.1.Now⟩, true) else (⟨g.1.No, g.1.Finds, g.1.Secrets, g.1.Slots, s.1, g.1.Trials, g.1.Chain, e.1, g.1.Now⟩, e.2) : House × Bool).1 false).bind fun r12 => some (r12.1, r12.2)) =
            some (bif decide (f = 0) then stepR h ⟨g.1.No, g.1.Finds, g.1.Secrets, g.1.Slots, s.1, g.1.Trials, g.1.Chain, g.1.Book, g.1.Now⟩ (b && s.2) else stepR h ⟨g.1.No, g.1.Finds, g.1.Secrets, g.1.Slots, s.1, g.1.Trials, g.1.Chain, e.1, g.1.Now⟩ (b && (s.2 && e.2))) := by
          intro b
          cases decide (f = 0) with
          | true =>
            simp only [cond_true, l34Done h _ _ hm o1, Option.bind_some]
            cases b <;> cases s.2 <;> rfl
          | false =>
            simp only [cond_false, l34Done h _ _ hm o2, Option.bind_some]
            cases b <;> cases s.2 <;> rfl
        rw [hspec]
        refine ⟨_, rfl, ?_, ?_⟩
        · cases hi : inSlot h.Slots t with
          | false =>
            rw [g4 hi]
            simp only [Bool.not_false, Option.bind_some, cond_true, Bool.not_false, Bool.true_or, Bool.false_and, stepR_false]
            cases decide (f = 0) <;> rfl
          | true =>
            simp only [Bool.not_true, Option.bind_some, cond_false, Bool.or_false, Bool.false_or, decide_eq_false hp, (findClaim h.Claims p m4).2, hcx, inb_n hc, gt_n hc, inb_n hk, gt_n hk, need_true, g2, s2, f2]
            cases hf : decide (f = 0) with
            | true =>
              simp only [Bool.not_true, cond_false, cond_true, stepped h _ _ hm o1 (show [g.2, s.2, true].length ≤ 1048576 by simp), Option.bind_some, List.all_cons, List.all_nil, Bool.and_true, id_eq]
            | false =>
              simp only [Bool.not_false, cond_false, cond_true, e2, stepped h _ _ hm o2 (show [g.2, s.2, e.2].length ≤ 1048576 by simp), Option.bind_some, List.all_cons, List.all_nil, Bool.and_true, id_eq]
        · cases decide (f = 0) with
          | true => exact stepR_sm _ _ _ hm o1
          | false => exact stepR_sm _ _ _ hm o2
end Go.Proofs.YtcdffihcfeajfaaGreat
