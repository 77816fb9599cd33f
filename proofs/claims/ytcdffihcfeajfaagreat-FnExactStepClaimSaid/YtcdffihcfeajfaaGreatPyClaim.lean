/- A claim brought. The program's answers are the reference's. No condition but the length. -/
import Derived.Test.YtcdffihcfeajfaaGreatPyIns
import Derived.Test.YtcdffihcfeajfaaGreatPyFc
namespace Go.Proofs.YtcdffihcfeajfaaGreat
open Go
set_option linter.unusedVariables false
set_option linter.unusedSimpArgs false
/-- Claims in order go up. -/
theorem claims_up (l : List Claim) (hl : l.length ≤ 2097152) (h : spec_AreClaims l = some true) : ∀ i (hi : i < l.length) (h0 : 0 < i), (l[i - 1]'(by omega)).Id < l[i].Id := by
  intro i hi h0
  have ho := (claims_len l h hl).2 i hi
  unfold claimOk at ho
  simp only [Bool.and_eq_true, Bool.or_eq_true, gt_n hi, gt_n (show i - 1 < l.length by omega)] at ho
  have := ho.2.2.2.2.2.1
  simp at this
  omega
/-- Where a thing stands in a list that goes up once it is in. -/
theorem ins_up {α : Type} [Inhabited α] (key : α → Int) (l : List α) (k : Nat) (hk : k ≤ l.length) (x : α) (up : ∀ i (hi : i < (insL l (k : Int) [x]).length) (h0 : 0 < i), key ((insL l (k : Int) [x])[i - 1]'(by omega)) < key (insL l (k : Int) [x])[i]) (j : Nat) (hj : j < l.length) : if j < k then key l[j] < key x else key x < key l[j] := by
  have hlen := ins_len l k hk x
  have hu := up_lt (n := (insL l (k : Int) [x]).length) (fun i => key (gt (insL l (k : Int) [x]) (i : Int))) (fun i h1 h2 => by
    show key (gt (insL l (k : Int) [x]) ((i - 1 : Nat) : Int)) < key (gt (insL l (k : Int) [x]) (i : Int))
    rw [gt_n h1, gt_n (show i - 1 < (insL l (k : Int) [x]).length by omega)]; exact up i h1 h2)
  have g1 : gt (insL l (k : Int) [x]) (k : Int) = x := by
    have hlt : k < (insL l (k : Int) [x]).length := by omega
    rw [gt_n hlt]
    have := ins_at l k hk x
    rw [List.getElem?_eq_getElem hlt] at this
    exact Option.some.inj this
  have hidx : (if j < k then j else j + 1) < (insL l (k : Int) [x]).length := by split <;> omega
  have g2 : gt (insL l (k : Int) [x]) ((if j < k then j else j + 1 : Nat) : Int) = l[j] := by
    rw [gt_n hidx]
    have := ins_old l k hk x j hj
    rw [List.getElem?_eq_getElem hidx] at this
    exact Option.some.inj this
  by_cases h : j < k
  · have := hu k (if j < k then j else j + 1) (by rw [if_pos h]; exact h) (by omega)
    simp only [g1, g2] at this; rw [if_pos h]; exact this
  · have := hu (if j < k then j else j + 1) k (by rw [if_neg h]; omega) hidx
    simp only [g1, g2] at this; rw [if_neg h]; exact this
/-- Two places where a thing may be put: if at one of them the list goes up, they are one. -/
theorem ins_one {α : Type} [Inhabited α] (key : α → Int) (l : List α) (k1 k2 : Nat) (h1 : k1 ≤ l.length) (h2 : k2 ≤ l.length) (x : α)
    (a1 : ∀ j (hj : j < l.length), k1 ≤ j → ¬ key l[j] < key x) (a2 : ∀ (h : 0 < k1), key (l[k1 - 1]'(by omega)) < key x)
    (b1 : ∀ j (hj : j < l.length), j < k2 → key l[j] < key x) (b2 : ∀ (h : k2 < l.length), ¬ key l[k2] < key x)
    (up : (∀ i (hi : i < (insL l (k1 : Int) [x]).length) (h0 : 0 < i), key ((insL l (k1 : Int) [x])[i - 1]'(by omega)) < key (insL l (k1 : Int) [x])[i]) ∨ (∀ i (hi : i < (insL l (k2 : Int) [x]).length) (h0 : 0 < i), key ((insL l (k2 : Int) [x])[i - 1]'(by omega)) < key (insL l (k2 : Int) [x])[i])) : k1 = k2 := by
  rcases up with up | up
  · have hj := ins_up key l k1 h1 x up
    by_cases h : k1 < k2
    · exact absurd (b1 k1 (by omega) h) (a1 k1 (by omega) (Nat.le_refl _))
    · by_cases h' : k2 < k1
      · have := hj k2 (by omega)
        rw [if_pos h'] at this
        exact absurd this (b2 (by omega))
      · omega
  · have hj := ins_up key l k2 h2 x up
    by_cases h : k1 < k2
    · exact absurd (b1 k1 (by omega) h) (a1 k1 (by omega) (Nat.le_refl _))
    · by_cases h' : k2 < k1
      · have h3 := hj (k1 - 1) (by omega)
        rw [if_neg (by omega)] at h3
        have h4 := a2 (by omega)
        omega
      · omega
/-- The first place where it fails. -/
theorem run_first {n : Nat} (p : Nat → Bool) {step : Int → Option (Int ⊕ Int)} (h1 : ∀ i, i < n → step (i : Int) = some (bif p i then .inl ((i + 1 : Nat) : Int) else .inr (i : Int))) (h2 : step (n : Int) = some (.inr (n : Int))) : ∃ k : Nat, k ≤ n ∧ run step 0 = some (k : Int) ∧ (∀ j, j < k → p j = true) ∧ (k < n → p k = false) := by
  have key : ∀ (m i : Nat), i + m = n → (∀ j, j < i → p j = true) → ∃ k : Nat, k ≤ n ∧ run step (i : Int) = some (k : Int) ∧ (∀ j, j < k → p j = true) ∧ (k < n → p k = false) := by
    intro m
    induction m with
    | zero =>
      intro i hi hp
      have : i = n := by omega
      subst this
      exact ⟨i, Nat.le_refl _, by rw [run_eq, h2]; rfl, hp, fun h => by omega⟩
    | succ m ih =>
      intro i hi hp'
      cases hp : p i with
      | false => exact ⟨i, by omega, by rw [run_eq, h1 i (by omega), hp]; rfl, hp', fun _ => hp⟩
      | true =>
        obtain ⟨k, k1, k2, k3⟩ := ih (i + 1) (by omega) (fun j hj => by
          by_cases hji : j = i
          · subst hji; exact hp
          · exact hp' j (by omega))
        exact ⟨k, k1, by rw [run_eq, h1 i (by omega), hp]; exact k2, k3⟩
  exact key n 0 (by omega) (fun j hj => by omega)
/-- One past the last claim before it. -/
def afterP (l : List Claim) (id : Int) : Nat → Nat
  | 0 => 0
  | n + 1 => bif decide ((gt l (n : Int)).Id < id) then n + 1 else afterP l id n
theorem afterP_le (l : List Claim) (id : Int) : ∀ n, afterP l id n ≤ n
  | 0 => Nat.le_refl _
  | n + 1 => by
    have := afterP_le l id n
    unfold afterP
    cases decide ((gt l (n : Int)).Id < id) <;> simp <;> omega
theorem afterP_hi (l : List Claim) (id : Int) : ∀ n j, afterP l id n ≤ j → j < n → ¬ (gt l (j : Int)).Id < id
  | 0, j, _, h => by omega
  | n + 1, j, h1, h2 => by
    unfold afterP at h1
    cases hd : decide ((gt l (n : Int)).Id < id) with
    | true => rw [hd] at h1; simp at h1; omega
    | false =>
      rw [hd] at h1
      by_cases hj : j = n
      · subst hj; exact of_decide_eq_false hd
      · exact afterP_hi l id n j h1 (by omega)
theorem afterP_lo (l : List Claim) (id : Int) : ∀ n, 0 < afterP l id n → (gt l ((afterP l id n - 1 : Nat) : Int)).Id < id
  | 0, h => by simp [afterP] at h
  | n + 1, h => by
    unfold afterP at h ⊢
    cases hd : decide ((gt l (n : Int)).Id < id) with
    | true => simp only [cond_true, Nat.add_sub_cancel]; exact of_decide_eq_true hd
    | false => rw [hd] at h; exact afterP_lo l id n h
theorem addClaim (l : List Claim) (x : Claim) (hl : l.length ≤ 1048576) : ∃ r, spec_AddClaim l x = some r ∧ impl_AddClaim l x = some r ∧ r.1.length ≤ 1048576 ∧
    (r.2 = true → ∃ k : Nat, k ≤ l.length ∧ r.1 = insL l (k : Int) [x] ∧ claimIx r.1 x.Id = (k : Int) ∧ (∀ j (hj : j < l.length), j < k → l[j].Id < x.Id) ∧ (∀ j (hj : j < l.length), k ≤ j → ¬ l[j].Id < x.Id)) := by
  have hs := run_traj (step := spec_AddClaim_l4 l x) (fun i => (((afterP l x.Id i : Nat) : Int), (!decide (x.State = 0)) || (l.take i).any (fun y => decide (y.Who = x.Who) && decide (y.Thing = x.Thing)), (i : Int)))
    (r := (((afterP l x.Id l.length : Nat) : Int), (!decide (x.State = 0)) || l.any (fun y => decide (y.Who = x.Who) && decide (y.Thing = x.Thing)))) l.length (fun i hi => by
      have hw := w64_n (show (i : Int) < 9223372036854775807 by omega)
      have hany : (l.take (i + 1)).any (fun y => decide (y.Who = x.Who) && decide (y.Thing = x.Thing)) = ((l.take i).any (fun y => decide (y.Who = x.Who) && decide (y.Thing = x.Thing)) || (decide (l[i].Who = x.Who) && decide (l[i].Thing = x.Thing))) := by
        rw [List.take_succ_eq_append_getElem hi, List.any_append]; simp
      have ha : afterP l x.Id (i + 1) = bif decide (l[i].Id < x.Id) then i + 1 else afterP l x.Id i := by
        rw [afterP, gt_n hi]
      simp only [spec_AddClaim_l4, lt_ln hi, inb_n hi, gt_n hi, hw, cond_true, need_true, hany, ha]
      generalize (l.take i).any (fun y => decide (y.Who = x.Who) && decide (y.Thing = x.Thing)) = q
      cases decide (x.State = 0) <;> cases q <;> cases (decide (l[i].Who = x.Who) && decide (l[i].Thing = x.Thing)) <;> cases decide (l[i].Id < x.Id) <;> rfl)
    (by simp only [spec_AddClaim_l4, ge_ln (Nat.le_refl _), cond_false, List.take_length])
  have hs' : run (spec_AddClaim_l4 l x) (0, (!decide (x.State = 0)), 0) = some (((afterP l x.Id l.length : Nat) : Int), (!decide (x.State = 0)) || l.any (fun y => decide (y.Who = x.Who) && decide (y.Thing = x.Thing))) := by
    have : ((!decide (x.State = 0)) || (l.take 0).any (fun y => decide (y.Who = x.Who) && decide (y.Thing = x.Thing))) = !decide (x.State = 0) := by simp
    rw [this] at hs; exact hs
  have hk1 := afterP_le l x.Id l.length
  have hhi := afterP_hi l x.Id l.length
  have hlo := afterP_lo l x.Id l.length
  generalize afterP l x.Id l.length = k1 at hs' hk1 hhi hlo
  obtain ⟨k2, hk2, hr, hf1, hf2⟩ := run_first (n := l.length) (fun i => decide ((gt l (i : Int)).Id < x.Id)) (step := impl_AddClaim_l5 l x l)
    (fun i hi => by
      simp only [impl_AddClaim_l5, lt_ln hi, inb_n hi, w64_n (show (i : Int) < 9223372036854775807 by omega), cond_true, need_true, Option.bind_some]
      cases decide ((gt l (i : Int)).Id < x.Id) <;> rfl)
    (by simp only [impl_AddClaim_l5, ge_ln (Nat.le_refl _), cond_false]; rfl)
  have A1 : ∀ j (hj : j < l.length), k1 ≤ j → ¬ l[j].Id < x.Id := fun j hj h => by have := hhi j h hj; rw [gt_n hj] at this; exact this
  have A2 : ∀ (h : 0 < k1), (l[k1 - 1]'(by omega)).Id < x.Id := fun h => by have := hlo h; rw [gt_n (show k1 - 1 < l.length by omega)] at this; exact this
  have B1 : ∀ j (hj : j < l.length), j < k2 → l[j].Id < x.Id := fun j hj h => by have := hf1 j h; simp only [gt_n hj, decide_eq_true_eq] at this; exact this
  have B2 : ∀ (h : k2 < l.length), ¬ l[k2].Id < x.Id := fun h => by have := hf2 h; simp only [gt_n h, decide_eq_false_iff_not] at this; exact this
  have hl1 := ins_len l k1 hk1 x
  have hl2 := ins_len l k2 hk2 x
  obtain ⟨b, b1, b2, _⟩ := areClaimsL (insL l (k1 : Int) [x]) (by omega)
  obtain ⟨c, c1, c2, _⟩ := areClaimsL (insL l (k2 : Int) [x]) (by omega)
  have hone : b = true ∨ c = true → k1 = k2 := fun h => ins_one (fun y : Claim => y.Id) l k1 k2 hk1 hk2 x A1 A2 B1 B2 (by
    rcases h with rfl | rfl
    · exact .inl (claims_up _ (by omega) b1)
    · exact .inr (claims_up _ (by omega) c1))
  have hbc : b = c := by
    cases hb : b with
    | true =>
      have := hone (.inl hb)
      subst this
      rw [b1, hb] at c1; exact Option.some.inj c1
    | false => cases hc : c with
      | false => rfl
      | true =>
        have := hone (.inr hc)
        subst this
        rw [c1, hc] at b1; rw [hb] at b1; cases b1
  have hi := run_find l (fun y => decide (y.Who = x.Who) && decide (y.Thing = x.Thing)) (fun i => (i : Int)) (step := slices_IndexFunc_Claim_cimpl_AddClaim_1_l2 l x (ln l))
    (fun i hi => by
      simp only [slices_IndexFunc_Claim_cimpl_AddClaim_1_l2, impl_AddClaim_1, lt_ln hi, inb_n hi, gt_n hi, w64_n (show (i : Int) < 9223372036854775807 by omega), cond_true, need_true, Option.bind_some]
      cases (decide (l[i].Who = x.Who) && decide (l[i].Thing = x.Thing)) <;> rfl)
    (by simp only [slices_IndexFunc_Claim_cimpl_AddClaim_1_l2, ge_ln (Nat.le_refl _), cond_false])
  have hc : slices_ContainsFunc_Claim_cimpl_AddClaim_1 l x = some (l.any (fun y => decide (y.Who = x.Who) && decide (y.Thing = x.Thing))) := by
    unfold slices_ContainsFunc_Claim_cimpl_AddClaim_1 slices_IndexFunc_Claim_cimpl_AddClaim_1
    rw [hi]
    cases hf : l.findIdx? (fun y => decide (y.Who = x.Who) && decide (y.Thing = x.Thing)) with
    | none =>
      have : l.any (fun y => decide (y.Who = x.Who) && decide (y.Thing = x.Thing)) = false := by
        rw [List.any_eq_false]
        intro y hy
        have := List.findIdx?_eq_none_iff.1 hf y hy
        simpa using this
      rw [this]; rfl
    | some i =>
      obtain ⟨hi', hp⟩ := find_at hf
      rw [List.any_eq_true.2 ⟨_, List.getElem_mem hi', hp⟩]
      simp only [Option.bind_some, evO, decide_eq_true (show (0 : Int) ≤ (i : Int) by omega)]
  have hrm : rm (0 + l.length) 40 = true := rm_ok (by omega) (by omega)
  have hrm1 : rm (0 + (cut l 0 (k1 : Int)).length) 40 = true := rm_ok (by rw [cut_take, List.length_take]; omega) (by omega)
  have hrm2 : rm ((cut l 0 (k1 : Int)).length + 1) 40 = true := rm_ok (by rw [cut_take, List.length_take]; omega) (by omega)
  have hrm3 : rm ((cut l 0 (k1 : Int)).length + 1 + (cut l (k1 : Int) (ln l)).length) 40 = true := rm_ok (by rw [cut_take, cut_drop, List.length_take, List.length_drop]; omega) (by omega)
  have hspec : spec_AddClaim l x = some (bif ((!decide (x.State = 0)) || l.any (fun y => decide (y.Who = x.Who) && decide (y.Thing = x.Thing))) || !b then (l, false) else (insL l (k1 : Int) [x], true)) := by
    unfold spec_AddClaim
    simp only [hs', Option.bind_some]
    rw [show slB 0 (k1 : Int) (ln l) = true from slB_ok hk1, show slB (k1 : Int) (ln l) (ln l) = true from slB_end hk1]
    simp only [need_true, hrm, hrm1, hrm2, hrm3, ins_cut, b1, Option.bind_some]
    cases ((!decide (x.State = 0)) || l.any (fun y => decide (y.Who = x.Who) && decide (y.Thing = x.Thing))) <;> cases b <;> rfl
  have hdup : ∀ j : Nat, ∀ hj : j < l.length, l[j].Id = x.Id → b = true → False := fun j hj he hb => by
    subst hb
    exact ins_dup (fun y : Claim => y.Id) l k1 hk1 x (claims_up _ (by omega) b1) j hj he
  refine ⟨_, hspec, ?_, ?_, ?_⟩
  · unfold impl_AddClaim slices_Clone_Claim
    simp only [hrm, need_true, Option.bind_some, findClaimI l x.Id hl, hc, hr, insB_ok l k2 hk2 x 40 hl (by omega), c2]
    rw [← hbc]
    cases hb : b with
    | false =>
      cases decide (x.State = 0) <;> cases decide (0 ≤ claimIx l x.Id) <;> cases l.any (fun y => decide (y.Who = x.Who) && decide (y.Thing = x.Thing)) <;> rfl
    | true =>
      have hk := hone (.inl hb)
      rcases claimIx_at l x.Id with h | ⟨j, hj, h, hid⟩
      · rw [h, ← hk]
        cases decide (x.State = 0) <;> cases l.any (fun y => decide (y.Who = x.Who) && decide (y.Thing = x.Thing)) <;> rfl
      · exact absurd hb (fun hb => hdup j hj hid hb)
  · cases hb : b with
    | true =>
      subst hb
      have := (claims_len _ b1 (by omega)).1
      cases (((!decide (x.State = 0)) || l.any (fun y => decide (y.Who = x.Who) && decide (y.Thing = x.Thing))) || !true) with
      | true => exact hl
      | false => show (insL l (k1 : Int) [x]).length ≤ _; omega
    | false => rw [Bool.not_false, Bool.or_true]; exact hl
  · intro h
    have hb : b = true := by
      cases hb : b with
      | true => rfl
      | false => rw [hb, Bool.not_false, Bool.or_true] at h; cases h
    have hq : (((!decide (x.State = 0)) || l.any (fun y => decide (y.Who = x.Who) && decide (y.Thing = x.Thing))) || !b) = false := by
      cases hq : (((!decide (x.State = 0)) || l.any (fun y => decide (y.Who = x.Who) && decide (y.Thing = x.Thing))) || !b) with
      | false => rfl
      | true => rw [hq] at h; cases h
    rw [hq]
    refine ⟨k1, hk1, rfl, ?_, ?_, A1⟩
    · subst hb
      have hup := claims_up _ (by omega) b1
      have hlt : k1 < (insL l (k1 : Int) [x]).length := by omega
      have hx : (insL l (k1 : Int) [x])[k1] = x := by
        have := ins_at l k1 hk1 x
        rw [List.getElem?_eq_getElem hlt] at this
        exact Option.some.inj this
      obtain ⟨j, hj, h1, h2⟩ := claimIx_has (insL l (k1 : Int) [x]) x.Id k1 hlt (by rw [hx])
      show claimIx (insL l (k1 : Int) [x]) x.Id = _
      rw [h1]
      have hu := up_lt (n := (insL l (k1 : Int) [x]).length) (fun i => (gt (insL l (k1 : Int) [x]) (i : Int)).Id) (fun i h1 h2 => by
        show (gt (insL l (k1 : Int) [x]) ((i - 1 : Nat) : Int)).Id < (gt (insL l (k1 : Int) [x]) (i : Int)).Id
        rw [gt_n h1, gt_n (show i - 1 < (insL l (k1 : Int) [x]).length by omega)]; exact hup i h1 h2)
      by_cases h3 : j < k1
      · have := hu k1 j h3 hlt
        simp only [gt_n hj, gt_n hlt, h2, hx] at this; omega
      · by_cases h4 : k1 < j
        · have := hu j k1 h4 hj
          simp only [gt_n hj, gt_n hlt, h2, hx] at this; omega
        · congr 1; omega
    · intro j hj hjk
      have hk := hone (.inl hb)
      exact B1 j hj (by omega)
/-- A step that is behind a house in disorder, or that is refused. -/
theorem l34Bad (h out : House) (ok : Bool) (hm : sm_House h) (hb : houseB h = false) : spec_l34Done h out ok = some (h, false) := by
  unfold spec_l34Done
  simp only [(houseB_eq h hm).1, hb, l33Copy h hm, Option.bind_some]
  cases ok <;> rfl
theorem l34No (h out : House) (hm : sm_House h) : spec_l34Done h out false = some (h, false) := by
  unfold spec_l34Done
  simp only [l33Copy h hm, Option.bind_some]
  rfl
theorem stepped2 (h : House) (out : House) (hm : sm_House h) (ho : sm_House out) : impl_stepped_n2 h out = some (stepR h out true) := by
  unfold impl_stepped_n2 stepR
  have : slices_Contains_bool [] false = some false := by rw [anyFalse [] (by simp)]; rfl
  simp only [this, (houseB_eq h hm).2, (houseB_eq out ho).2, cloneHouse h hm, Option.bind_some]
  cases houseB h <;> cases houseB out <;> rfl
theorem trials_id (h : House) (m1 : h.Finds.length ≤ 1048576) (m2 : h.Secrets.length ≤ 1048576) (mm : ∀ x ∈ h.Secrets, x.Marks.length ≤ 1048576) (m4 : h.Claims.length ≤ 1048576) (ht : impl_areTrials h = some true) : ∀ i (hi : i < h.Claims.length) (hi2 : i < h.Trials.length), h.Trials[i].Claim = h.Claims[i].Id := by
  have hlen := trials_len h ht
  unfold impl_areTrials at ht
  rw [show (!decide (ln h.Trials = ln h.Claims)) = false from by rw [ln_eq, ln_eq, hlen]; simp] at ht
  have hstep : ∀ i (hi : i < h.Claims.length) (hi2 : i < h.Trials.length), ∃ o, impl_areTrials_l4 h h.Claims (ln h.Claims) (i : Int) = some o ∧ (o = .inl ((i + 1 : Nat) : Int) ∨ o = .inr (.ret false)) ∧ (o = .inl ((i + 1 : Nat) : Int) → h.Trials[i].Claim = h.Claims[i].Id) := by
    intro i hi hi2
    obtain ⟨t, _, t2⟩ := isTrialB h.Trials[i]
    obtain ⟨m, _, k2, k3⟩ := marksOf h.Secrets h.Claims[i].Thing m2 mm
    obtain ⟨c, _, s2⟩ := trialState m h.Trials[i] k3
    have hw : ∃ w, impl_wanted h.Claims[i].State = some w := by
      unfold impl_wanted
      cases decide (h.Claims[i].State = 0) <;> cases decide (h.Claims[i].State = 1) <;> cases decide (h.Claims[i].State = 3) <;> cases decide (h.Claims[i].State = 2) <;> exact ⟨_, rfl⟩
    obtain ⟨w, hw⟩ := hw
    simp only [impl_areTrials_l4, lt_ln hi, inb_n hi, gt_n hi, inb_n hi2, gt_n hi2, w64_n (show (i : Int) < 9223372036854775807 by omega), cond_true, need_true, t2, k2, s2, hw, (findThing h.Finds _ m1).2, Option.bind_some]
    by_cases hc : h.Trials[i].Claim = h.Claims[i].Id
    · cases decide (findIx h.Finds h.Claims[i].Thing < 0) <;> cases decide (h.Trials[i].Claim = h.Claims[i].Id) <;> cases t <;> cases decide (c = w) <;> first | exact ⟨_, rfl, .inl rfl, fun _ => hc⟩ | exact ⟨_, rfl, .inr rfl, fun _ => hc⟩
    · rw [decide_eq_false hc]
      cases decide (findIx h.Finds h.Claims[i].Thing < 0) <;> cases t <;> exact ⟨_, rfl, .inr rfl, fun h => by cases h⟩
  have key : ∀ (m i : Nat), i + m = h.Claims.length → run (impl_areTrials_l4 h h.Claims (ln h.Claims)) (i : Int) = some (.brk ()) ∨ run (impl_areTrials_l4 h h.Claims (ln h.Claims)) (i : Int) = some (.ret false) := by
    intro m
    induction m with
    | zero =>
      intro i hi
      have : i = h.Claims.length := by omega
      subst this
      left
      rw [run_eq]
      simp only [impl_areTrials_l4, ge_ln (Nat.le_refl _), cond_false]; rfl
    | succ m ih =>
      intro i hi
      obtain ⟨o, h1, h2, _⟩ := hstep i (by omega) (by omega)
      rw [run_eq, h1]
      rcases h2 with rfl | rfl
      · exact ih (i + 1) (by omega)
      · exact .inr rfl
  have key2 : ∀ (m i : Nat), i + m = h.Claims.length → run (impl_areTrials_l4 h h.Claims (ln h.Claims)) (i : Int) = some (.brk ()) → ∀ j (hj : j < h.Claims.length) (hj2 : j < h.Trials.length), i ≤ j → h.Trials[j].Claim = h.Claims[j].Id := by
    intro m
    induction m with
    | zero => intro i hi _ j hj _ hij; omega
    | succ m ih =>
      intro i hi hr j hj hj2 hij
      obtain ⟨o, h1, h2, h3⟩ := hstep i (by omega) (by omega)
      rw [run_eq, h1] at hr
      rcases h2 with rfl | rfl
      · by_cases hij' : i = j
        · subst hij'; exact h3 rfl
        · exact ih (i + 1) (by omega) hr j hj hj2 (by omega)
      · simp at hr
  intro i hi hi2
  rcases key h.Claims.length 0 (by omega) with hr | hr
  · exact key2 h.Claims.length 0 (by omega) hr i hi hi2 (by omega)
  · rw [show run (impl_areTrials_l4 h h.Claims (ln h.Claims)) 0 = some (.ret false) from hr] at ht
    cases ht
theorem stepClaim (h : House) (a w t : Int) (hm : sm_House h) : ∃ r, spec_StepClaim h a w t = some r ∧ impl_StepClaim h a w t = some r ∧ sm_House r.1 := by
  have hm7 := hm
  obtain ⟨m1, m2, m3, m4, m5, m6, m7⟩ := hm7
  obtain ⟨c, c1, c2, c3, c4⟩ := addClaim h.Claims ⟨a, w, t, h.Now, 0⟩ m4
  obtain ⟨v, v1, v2⟩ := slotWith_in h.Slots t m3
  obtain ⟨k, hk, hr, hf1, hf2⟩ := run_first (n := h.Trials.length) (fun i => decide ((gt h.Trials (i : Int)).Claim < a)) (step := spec_StepClaim_l5 a t h ⟨h.No, h.Finds, h.Secrets, h.Slots, c.1, h.Trials, h.Chain, h.Book, h.Now⟩ c.2)
    (fun i hi => by
      simp only [spec_StepClaim_l5, lt_ln hi, inb_n hi, w64_n (show (i : Int) < 9223372036854775807 by omega), cond_true, need_true, Option.bind_some]
      cases decide ((gt h.Trials (i : Int)).Claim < a) <;> rfl)
    (by simp only [spec_StepClaim_l5, ge_ln (Nat.le_refl _), cond_false]; rfl)
  have hrm1 : rm (cut h.Trials 0 (k : Int)).length 32 = true := rm_ok (by rw [cut_take, List.length_take]; omega) (by omega)
  have hrm2 : rm ((cut h.Trials 0 (k : Int)).length + 1) 32 = true := rm_ok (by rw [cut_take, List.length_take]; omega) (by omega)
  have hrm3 : rm ((cut h.Trials 0 (k : Int)).length + 1 + (cut h.Trials (k : Int) (ln h.Trials)).length) 32 = true := rm_ok (by rw [cut_take, cut_drop, List.length_take, List.length_drop]; omega) (by omega)
  have hspec : spec_StepClaim h a w t = bif c.2 then (spec_SlotOf h.Slots t).bind fun r3 => spec_l34Done h ⟨h.No, h.Finds, h.Secrets, h.Slots, c.1, insL h.Trials (k : Int) [⟨a, 0, 0, 0⟩], h.Chain, h.Book, h.Now⟩ (!decide (r3 = 0)) else some (h, false) := by
    unfold spec_StepClaim
    simp only [l33Copy h hm, c1, Option.bind_some, hr]
    rw [show slB 0 (k : Int) (ln h.Trials) = true from slB_ok hk, show slB (k : Int) (ln h.Trials) (ln h.Trials) = true from slB_end hk]
    simp only [need_true, hrm1, hrm2, hrm3, ins_cut]
    cases c.2 with
    | false => simp only [cond_false, l34No h _ hm, Option.bind_some]
    | true =>
      simp only [cond_true, slotOfV h.Slots t m3, Option.bind_some]
      cases spec_l34Done h ⟨h.No, h.Finds, h.Secrets, h.Slots, c.1, insL h.Trials (k : Int) [⟨a, 0, 0, 0⟩], h.Chain, h.Book, h.Now⟩ (!decide ((bif decide (t = 0) || decide (slotIx h.Slots t < 0) then (0 : Int) else (gt h.Slots (slotIx h.Slots t)).Id) = 0)) <;> rfl
  rw [hspec]
  unfold impl_StepClaim
  simp only [cloneHouse h hm, c2, Option.bind_some, (houseB_eq h hm).2, v1]
  cases hc : c.2 with
  | false => exact ⟨(h, false), rfl, rfl, hm⟩
  | true =>
    simp only [cond_true, Bool.not_true, cond_false, slotOfV h.Slots t m3, Option.bind_some]
    cases hb : houseB h with
    | false =>
      rw [l34Bad h _ _ hm hb]
      exact ⟨(h, false), rfl, rfl, hm⟩
    | true =>
      have ho := houseB_ok h hm hb
      have hcl := claims_len _ ho.cS (by omega)
      have htl := trials_len h ho.trials
      obtain ⟨k2, hk2, hins, hix, hlo, hhi⟩ := c4 hc
      have hids := trials_id h m1 m2.1 (fun x hx => m2.2 x hx) m4 ho.trials
      have hkk : k = k2 := by
        by_cases h1 : k < k2
        · have := hf2 (by omega)
          simp only [gt_n (show k < h.Trials.length by omega), decide_eq_false_iff_not] at this
          rw [hids k (by omega) (by omega)] at this
          exact absurd (hlo k (by omega) h1) this
        · by_cases h2 : k2 < k
          · have := hf1 k2 h2
            simp only [gt_n (show k2 < h.Trials.length by omega), decide_eq_true_eq] at this
            rw [hids k2 (by omega) (by omega)] at this
            exact absurd this (hhi k2 (by omega) (Nat.le_refl _))
          · omega
      have hil := ins_len h.Trials k hk (⟨a, 0, 0, 0⟩ : Trial)
      have wo : sm_House ⟨h.No, h.Finds, h.Secrets, h.Slots, c.1, insL h.Trials (k : Int) [⟨a, 0, 0, 0⟩], h.Chain, h.Book, h.Now⟩ := ⟨m1, m2, m3, c3, by show (insL h.Trials (k : Int) [⟨a, 0, 0, 0⟩]).length ≤ _; omega, m6, m7⟩
      have hslot : (!decide ((bif decide (t = 0) || decide (slotIx h.Slots t < 0) then (0 : Int) else (gt h.Slots (slotIx h.Slots t)).Id) = 0)) = inSlot h.Slots t := by
        unfold inSlot
        cases decide (t = 0) with
        | true => rfl
        | false =>
          rcases slotIx_any h.Slots t with ⟨_, h2⟩ | ⟨j, hj, h2, _, _⟩
          · rw [h2]; rfl
          · rw [h2]
            have hs2 : 1 ≤ h.Slots[j].Id := by
              obtain ⟨q, q1, _, q3⟩ := areSlots h.Slots m3
              rw [ho.tS] at q1
              exact (q3 (Option.some.inj q1).symm).2 _ (List.getElem_mem hj)
            simp only [Bool.false_or, decide_eq_false (show ¬ (j : Int) < 0 by omega), cond_false, gt_n hj, decide_eq_false (show ¬ h.Slots[j].Id = 0 by omega)]
      rw [hslot, l34Done h _ _ hm wo]
      refine ⟨_, rfl, ?_, stepR_sm _ _ _ hm wo⟩
      simp only [Bool.not_true, cond_false, Option.bind_some, v2]
      cases inSlot h.Slots t with
      | false => rfl
      | true =>
        simp only [Bool.not_true, cond_false, findClaimI c.1 a c3, hix, Option.bind_some, ← hkk, insB_ok h.Trials k hk (⟨a, 0, 0, 0⟩ : Trial) 32 m5 (by omega), need_true, stepped2 h _ hm wo]
end Go.Proofs.YtcdffihcfeajfaaGreat
