/- What is wrong with a house: the program's answer is the reference's. No condition but the length. -/
import Derived.Test.YtlnajgoeoklioaaGreatPyIsH4
import Derived.Test.YtlnajgoeoklioaaGreatPyOwners
import Derived.Test.YtlnajgoeoklioaaGreatPyBook
namespace Go.Proofs.YtlnajgoeoklioaaGreat
open Go
set_option linter.unusedVariables false
set_option linter.unusedSimpArgs false
theorem house_true (h : House) (hm : sm_House h) (ht : spec_IsHouse h = some true) : (∀ x ∈ h.Slots, 1 ≤ x.Id) ∧ h.Chain.length ≤ 100 ∧ spec_IsChain h.Chain = some true ∧ impl_IsChain h.Chain = some true := by
  obtain ⟨m1, m2, m3, m4, m5, m6, m7⟩ := hm
  obtain ⟨f, f1, f2, f3⟩ := areFinds h.Finds m1
  obtain ⟨s, s1, s2⟩ := areSecrets h.Secrets m2.1 (fun x hx => m2.2 x hx)
  obtain ⟨t, t1, t2, t3⟩ := areSlots h.Slots m3
  obtain ⟨c, c1, c2, c3⟩ := areClaims h.Claims m4
  obtain ⟨n, n1, n2, n3⟩ := isChain h.Chain
  unfold spec_IsHouse at ht
  simp only [spec_l1In, f1, s1, t1, c1, n1, Option.bind_some] at ht
  cases hN : (decide (1 ≤ h.No) && decide (h.No ≤ 9)) with
  | false => rw [hN] at ht; cases ht
  | true =>
  rw [hN] at ht
  cases f with
  | false => cases ht
  | true =>
  cases s with
  | false => cases ht
  | true =>
  cases t with
  | false => cases ht
  | true =>
  cases c with
  | false => cases ht
  | true =>
  cases n with
  | false => cases ht
  | true => exact ⟨(t3 rfl).2, (n3 rfl).1, n1, n2⟩
theorem handsOf (l : List Hand) (t : Int) (hl : l.length ≤ 1048576) : ∃ r, spec_HandsOf l t = some r ∧ decide (ln r = 0) = decide (lastIx l t l.length < 0) := by
  have hr := run_filter l (fun x => decide (x.Thing = t)) (fun x => x) (step := spec_HandsOf_l3 l t)
    (fun i out hi ho => by
      have hrm : rm (out.length + 1) 40 = true := by unfold rm; exact decide_eq_true (by omega)
      simp only [spec_HandsOf_l3, lt_ln hi, inb_n hi, gt_n hi, w64_n (show (i : Int) < 9223372036854775807 by omega), cond_true, need_true, hrm]
      cases decide (l[i].Thing = t) <;> rfl)
    (fun out => by simp only [spec_HandsOf_l3, ge_ln (Nat.le_refl _), cond_false])
  refine ⟨(l.filter fun x => decide (x.Thing = t)).map fun x => x, by unfold spec_HandsOf; rw [hr]; rfl, ?_⟩
  rw [Bool.eq_iff_iff, decide_eq_true_eq, decide_eq_true_eq]
  unfold ln
  rw [List.length_map]
  constructor
  · intro h0
    rcases lastIx_in l t l.length with h | ⟨j, hj, h⟩
    · omega
    · exfalso
      obtain ⟨_, q⟩ := lastIx_thing l t l.length j h
      rw [gt_n hj] at q
      have : l[j] ∈ l.filter fun x => decide (x.Thing = t) := List.mem_filter.2 ⟨List.getElem_mem hj, by simpa using q⟩
      have := List.length_pos_of_mem this
      omega
  · intro h0
    cases hf : l.filter (fun x => decide (x.Thing = t)) with
    | nil => rfl
    | cons x r =>
      exfalso
      have hx : x ∈ l.filter fun x => decide (x.Thing = t) := by rw [hf]; simp
      obtain ⟨h1, h2⟩ := List.mem_filter.1 hx
      obtain ⟨i, hi, rfl⟩ := List.mem_iff_getElem.1 h1
      obtain ⟨j, _, q⟩ := lastIx_ge l t l.length i hi (by rw [gt_n hi]; simpa using h2)
      omega
theorem isAccounted (h : House) (hm : sm_House h) (ht : spec_IsHouse h = some true) : ∃ c, spec_IsAccounted h = some c ∧ impl_IsAccounted h = some c := by
  obtain ⟨hs, hl, c1, c2⟩ := house_true h hm ht
  obtain ⟨m1, m2, m3, m4, m5, m6, m7⟩ := hm
  obtain ⟨r1, r2, a1, a2, a3, a4, a5⟩ := inHouse h.Chain h.No hl c1 c2
  obtain ⟨b, b1, b2, _⟩ := run_both (n := h.Finds.length) (r := false) (s1 := spec_IsAccounted_l3 h r1) (s2 := impl_IsAccounted_l3 h r2 h.Finds (ln h.Finds)) (fun i hi _ => by
      obtain ⟨r, e1, e2⟩ := handsOf h.Chain h.Finds[i].Thing.Id m6
      obtain ⟨c, d1, d2⟩ := slotOfS h.Slots h.Finds[i].Thing.Id m3 hs
      have hsw := slotWith h.Slots h.Finds[i].Thing.Id m3
      have hw : decide ((bif decide (h.Finds[i].Thing.Id = 0) then -1 else slotIx h.Slots h.Finds[i].Thing.Id) < (0 : Int)) = decide (c = 0) := by
        rw [d2]
        by_cases h0 : h.Finds[i].Thing.Id = 0
        · rw [decide_eq_true h0]; rfl
        · rw [decide_eq_false h0]
          rcases slotIx_any h.Slots h.Finds[i].Thing.Id with ⟨p1, p2⟩ | ⟨k, hk, p1, _, p2⟩
          · rw [p1, cond_false, p2]; rfl
          · rw [p2, cond_false, p1, decide_eq_false (show ¬ (k : Int) < 0 by omega)]; rfl
      have hin : decide (h.Finds[i].Thing.Id ∈ r1) = decide (h.Finds[i].Thing.Id ∈ r2) := by
        rw [Bool.eq_iff_iff, decide_eq_true_eq, decide_eq_true_eq]; exact a3 _
      simp only [spec_IsAccounted_l3, impl_IsAccounted_l3, lt_ln hi, inb_n hi, gt_n hi, w64_n (show (i : Int) < 9223372036854775807 by omega), cond_true, need_true, e1, e2, d1, hsw, hw, lastHandA h.Chain _ m6,
        hasS r1 _ (by omega), hasI r2 _ (by omega), hin, Option.bind_some]
      cases decide (lastIx h.Chain h.Finds[i].Thing.Id h.Chain.length < 0) <;> cases decide (c = 0) <;> cases decide (h.Finds[i].Thing.Id ∈ r2) <;> first | exact ⟨true, rfl, rfl⟩ | exact ⟨false, rfl, rfl⟩)
    (by simp only [spec_IsAccounted_l3, ge_ln (Nat.le_refl _), cond_false]) (by simp only [impl_IsAccounted_l3, ge_ln (Nat.le_refl _), cond_false])
  refine ⟨b, ?_, ?_⟩
  · unfold spec_IsAccounted
    simp only [a1, b1, Option.bind_some]
    cases b <;> rfl
  · unfold impl_IsAccounted
    simp only [a2, b2, Option.bind_some]
    cases b <;> rfl
theorem faultOf (h : House) (hm : sm_House h) : ∃ c, spec_FaultOf h = some c ∧ impl_FaultOf h = some c := by
  obtain ⟨b, b1, b2⟩ := isHouse h hm
  unfold spec_FaultOf impl_FaultOf
  rw [b2]
  rw [b1]
  cases b with
  | false => exact ⟨_, rfl, rfl⟩
  | true =>
    obtain ⟨c, c1, c2⟩ := isAccounted h hm b1
    obtain ⟨d, d1, d2⟩ := areOwners h hm
    obtain ⟨e, e1, e2⟩ := isNeverEarly h hm
    obtain ⟨k, k1, k2⟩ := isBalanced h hm
    simp only [c1, c2, d1, d2, e1, e2, k1, k2, Option.bind_some]
    cases c <;> cases d <;> cases e <;> cases k <;> exact ⟨_, rfl, rfl⟩
end Go.Proofs.YtlnajgoeoklioaaGreat
