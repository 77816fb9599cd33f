/- A house that is in order, part by part; copies of houses. No condition but the length. -/
import Derived.Test.YtcdffihcfeajfaaGreatPyIsH4
namespace Go.Proofs.YtcdffihcfeajfaaGreat
open Go
set_option linter.unusedVariables false
set_option linter.unusedSimpArgs false
/-- All that a house in order is. -/
structure HouseOk (h : House) : Prop where
  no : 1 ≤ h.No ∧ h.No ≤ 9
  now : 0 ≤ h.Now ∧ h.Now ≤ 100000
  fS : spec_AreFinds h.Finds = some true
  fI : impl_AreFinds h.Finds = some true
  sS : spec_AreSecrets h.Secrets = some true
  sI : impl_AreSecrets h.Secrets = some true
  tS : spec_AreSlots h.Slots = some true
  tI : impl_AreSlots h.Slots = some true
  cS : spec_AreClaims h.Claims = some true
  cI : impl_AreClaims h.Claims = some true
  nS : spec_IsChain h.Chain = some true
  nI : impl_IsChain h.Chain = some true
  eS : spec_AreEntries h.Book = some true
  eI : impl_AreEntries h.Book = some true
  kept : impl_areKept h = some true
  trials : impl_areTrials h = some true
  lateF : ∀ x ∈ h.Finds, x.At ≤ h.Now
  lateC : ∀ x ∈ h.Claims, x.At ≤ h.Now
  lateN : ∀ x ∈ h.Chain, x.At ≤ h.Now
  lateE : ∀ x ∈ h.Book, x.At ≤ h.Now
theorem houseOk (h : House) (hm : sm_House h) (ht : impl_IsHouse h = some true) : HouseOk h := by
  obtain ⟨m1, m2, m3, m4, m5, m6, m7⟩ := hm
  obtain ⟨f, f1, f2, f3⟩ := areFinds h.Finds m1
  obtain ⟨s, s1, s2⟩ := areSecrets h.Secrets m2.1 (fun x hx => m2.2 x hx)
  obtain ⟨t, t1, t2, t3⟩ := areSlots h.Slots m3
  obtain ⟨c, c1, c2, c3⟩ := areClaims h.Claims m4
  obtain ⟨n, n1, n2, n3⟩ := isChain h.Chain
  obtain ⟨e, e1, e2, e3⟩ := areEntries h.Book m7
  unfold impl_IsHouse at ht
  simp only [impl_InRange, f2, s2, t2, c2, n2, e2, Option.bind_some] at ht
  cases hN : (decide (1 ≤ h.No) && decide (h.No ≤ 9)) with
  | false => rw [hN] at ht; cases ht
  | true =>
  rw [hN] at ht
  cases f with
  | false => cases ht
  | true =>
  cases s with
  | false => cases ht
  | true =>
  cases t with
  | false => cases ht
  | true =>
  cases c with
  | false => cases ht
  | true =>
  cases n with
  | false => cases ht
  | true =>
  cases e with
  | false => cases ht
  | true =>
  obtain ⟨k, k1, k2⟩ := kept h m1 m3 (n3 rfl).1 (f3 rfl).2 (t3 rfl).2 n1 n2
  obtain ⟨r, r1, r2⟩ := trials h m1 m2.1 (fun x hx => m2.2 x hx) m4 (c3 rfl).2
  obtain ⟨v, v1, v2⟩ := latest h h.Now m1 m4 m6 m7
  simp only [k1, r1, v1, cond_true, Option.bind_some] at ht
  cases k with
  | false => cases ht
  | true =>
  cases r with
  | false => cases ht
  | true =>
  simp only [cond_true, Option.bind_some] at ht
  cases hv : decide (v ≤ h.Now) with
  | false => rw [hv] at ht; cases ht
  | true =>
  rw [hv] at ht
  have hv' : v ≤ h.Now := of_decide_eq_true hv
  obtain ⟨g0, g1, g2, g3, g4⟩ := v2.1 hv'
  simp only [cond_true, Option.bind_some, Option.some.injEq, Bool.and_eq_true, decide_eq_true_eq] at ht hN
  exact ⟨hN, ht, f1, f2, s1, s2, t1, t2, c1, c2, n1, n2, e1, e2, k1, r1, g1, g2, g3, g4⟩
theorem spec_true (h : House) (hm : sm_House h) (ht : spec_IsHouse h = some true) : impl_IsHouse h = some true := by
  obtain ⟨c, c1, c2⟩ := isHouse h hm
  rw [c1] at ht; rw [c2]; exact ht
theorem l31Copy (l : List Secret) (hl : smL sm_Secret l) : spec_l31Copy l = some l := by
  have hlen := hl.1
  have h1 := run_traj (step := spec_l31Copy_l3 l) (fun i => (l.take i, (i : Int))) (r := l) l.length (fun i hi => by
      have hm : l[i].Marks.length ≤ 1048576 := hl.2 _ (List.getElem_mem hi)
      have hr1 : rm l[i].Marks.length 16 = true := rm_ok (by omega) (by omega)
      have hr2 : rm ((l.take i).length + 1) 40 = true := rm_ok (by rw [List.length_take]; omega) (by omega)
      simp only [spec_l31Copy_l3, lt_ln hi, inb_n hi, gt_n hi, hr1, hr2, cond_true, need_true, w64_n (show (i : Int) < 9223372036854775807 by omega)]
      rw [List.take_succ_eq_append_getElem hi])
    (by simp only [spec_l31Copy_l3, ge_ln (Nat.le_refl _), cond_false, List.take_length])
  unfold spec_l31Copy
  rw [show run (spec_l31Copy_l3 l) ([], 0) = _ from by simpa using h1]; rfl
theorem l33Copy (h : House) (hm : sm_House h) : spec_l33Copy h = some h := by
  obtain ⟨m1, m2, m3, m4, m5, m6, m7⟩ := hm
  unfold spec_l33Copy
  simp only [l31Copy _ m2, rm_ok (show h.Finds.length ≤ 2000000 by omega) (show 64 ≤ 1024 by omega), rm_ok (show h.Slots.length ≤ 2000000 by omega) (show 24 ≤ 1024 by omega), rm_ok (show h.Claims.length ≤ 2000000 by omega) (show 40 ≤ 1024 by omega),
    rm_ok (show h.Trials.length ≤ 2000000 by omega) (show 32 ≤ 1024 by omega), rm_ok (show h.Chain.length ≤ 2000000 by omega) (show 40 ≤ 1024 by omega), rm_ok (show h.Book.length ≤ 2000000 by omega) (show 32 ≤ 1024 by omega), need_true, Option.bind_some]
end Go.Proofs.YtcdffihcfeajfaaGreat
