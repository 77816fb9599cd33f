/- Lists and houses that are alike. No condition but the length. -/
import Derived.Test.YtcpelionmmnogaaFam
namespace Go.Proofs.Ytcpelionmmnogaa
open Go
set_option linter.unusedVariables false
set_option linter.unusedSimpArgs false
theorem runEqualFind (a b : List Find) (hl : a.length = b.length) (hm : a.length ≤ 1048576) : run (slices_Equal_Find_l4 a b (ln a)) 0 = some (bif eqL eq_Find a b then .brk () else .ret false) :=
  run_eqL a b eq_Find hl (fun i h h' => by
      simp only [slices_Equal_Find_l4, lt_ln h, inb_n h, inb_n h', gt_n h, gt_n h', w64_n (show (i : Int) < 9223372036854775807 by omega), cond_true, need_true]
      cases eq_Find _ _ <;> rfl) (by simp only [slices_Equal_Find_l4, ge_ln (Nat.le_refl _), cond_false])
theorem sEqualFind (a b : List Find) (hm : a.length ≤ 1048576) : slices_Equal_Find a b = some (eqL eq_Find a b) := by
  unfold slices_Equal_Find
  by_cases h : a.length = b.length
  · have h' : ln a = ln b := by rw [ln_eq, ln_eq, h]
    rw [runEqualFind a b h hm, decide_eq_true h']
    cases eqL eq_Find a b <;> rfl
  · have h' : ¬ ln a = ln b := by rw [ln_eq, ln_eq]; omega
    rw [decide_eq_false h', eqL_ne h]; rfl
theorem runEqualSlot (a b : List Slot) (hl : a.length = b.length) (hm : a.length ≤ 1048576) : run (slices_Equal_Slot_l4 a b (ln a)) 0 = some (bif eqL eq_Slot a b then .brk () else .ret false) :=
  run_eqL a b eq_Slot hl (fun i h h' => by
      simp only [slices_Equal_Slot_l4, lt_ln h, inb_n h, inb_n h', gt_n h, gt_n h', w64_n (show (i : Int) < 9223372036854775807 by omega), cond_true, need_true]
      cases eq_Slot _ _ <;> rfl) (by simp only [slices_Equal_Slot_l4, ge_ln (Nat.le_refl _), cond_false])
theorem sEqualSlot (a b : List Slot) (hm : a.length ≤ 1048576) : slices_Equal_Slot a b = some (eqL eq_Slot a b) := by
  unfold slices_Equal_Slot
  by_cases h : a.length = b.length
  · have h' : ln a = ln b := by rw [ln_eq, ln_eq, h]
    rw [runEqualSlot a b h hm, decide_eq_true h']
    cases eqL eq_Slot a b <;> rfl
  · have h' : ¬ ln a = ln b := by rw [ln_eq, ln_eq]; omega
    rw [decide_eq_false h', eqL_ne h]; rfl
theorem runEqualClaim (a b : List Claim) (hl : a.length = b.length) (hm : a.length ≤ 1048576) : run (slices_Equal_Claim_l4 a b (ln a)) 0 = some (bif eqL eq_Claim a b then .brk () else .ret false) :=
  run_eqL a b eq_Claim hl (fun i h h' => by
      simp only [slices_Equal_Claim_l4, lt_ln h, inb_n h, inb_n h', gt_n h, gt_n h', w64_n (show (i : Int) < 9223372036854775807 by omega), cond_true, need_true]
      cases eq_Claim _ _ <;> rfl) (by simp only [slices_Equal_Claim_l4, ge_ln (Nat.le_refl _), cond_false])
theorem sEqualClaim (a b : List Claim) (hm : a.length ≤ 1048576) : slices_Equal_Claim a b = some (eqL eq_Claim a b) := by
  unfold slices_Equal_Claim
  by_cases h : a.length = b.length
  · have h' : ln a = ln b := by rw [ln_eq, ln_eq, h]
    rw [runEqualClaim a b h hm, decide_eq_true h']
    cases eqL eq_Claim a b <;> rfl
  · have h' : ¬ ln a = ln b := by rw [ln_eq, ln_eq]; omega
    rw [decide_eq_false h', eqL_ne h]; rfl
theorem runEqualTrial (a b : List Trial) (hl : a.length = b.length) (hm : a.length ≤ 1048576) : run (slices_Equal_Trial_l4 a b (ln a)) 0 = some (bif eqL eq_Trial a b then .brk () else .ret false) :=
  run_eqL a b eq_Trial hl (fun i h h' => by
      simp only [slices_Equal_Trial_l4, lt_ln h, inb_n h, inb_n h', gt_n h, gt_n h', w64_n (show (i : Int) < 9223372036854775807 by omega), cond_true, need_true]
      cases eq_Trial _ _ <;> rfl) (by simp only [slices_Equal_Trial_l4, ge_ln (Nat.le_refl _), cond_false])
theorem sEqualTrial (a b : List Trial) (hm : a.length ≤ 1048576) : slices_Equal_Trial a b = some (eqL eq_Trial a b) := by
  unfold slices_Equal_Trial
  by_cases h : a.length = b.length
  · have h' : ln a = ln b := by rw [ln_eq, ln_eq, h]
    rw [runEqualTrial a b h hm, decide_eq_true h']
    cases eqL eq_Trial a b <;> rfl
  · have h' : ¬ ln a = ln b := by rw [ln_eq, ln_eq]; omega
    rw [decide_eq_false h', eqL_ne h]; rfl
theorem runEqualHand (a b : List Hand) (hl : a.length = b.length) (hm : a.length ≤ 1048576) : run (slices_Equal_Hand_l4 a b (ln a)) 0 = some (bif eqL eq_Hand a b then .brk () else .ret false) :=
  run_eqL a b eq_Hand hl (fun i h h' => by
      simp only [slices_Equal_Hand_l4, lt_ln h, inb_n h, inb_n h', gt_n h, gt_n h', w64_n (show (i : Int) < 9223372036854775807 by omega), cond_true, need_true]
      cases eq_Hand _ _ <;> rfl) (by simp only [slices_Equal_Hand_l4, ge_ln (Nat.le_refl _), cond_false])
theorem sEqualHand (a b : List Hand) (hm : a.length ≤ 1048576) : slices_Equal_Hand a b = some (eqL eq_Hand a b) := by
  unfold slices_Equal_Hand
  by_cases h : a.length = b.length
  · have h' : ln a = ln b := by rw [ln_eq, ln_eq, h]
    rw [runEqualHand a b h hm, decide_eq_true h']
    cases eqL eq_Hand a b <;> rfl
  · have h' : ¬ ln a = ln b := by rw [ln_eq, ln_eq]; omega
    rw [decide_eq_false h', eqL_ne h]; rfl
theorem runEqualEntry (a b : List Entry) (hl : a.length = b.length) (hm : a.length ≤ 1048576) : run (slices_Equal_Entry_l4 a b (ln a)) 0 = some (bif eqL eq_Entry a b then .brk () else .ret false) :=
  run_eqL a b eq_Entry hl (fun i h h' => by
      simp only [slices_Equal_Entry_l4, lt_ln h, inb_n h, inb_n h', gt_n h, gt_n h', w64_n (show (i : Int) < 9223372036854775807 by omega), cond_true, need_true]
      cases eq_Entry _ _ <;> rfl) (by simp only [slices_Equal_Entry_l4, ge_ln (Nat.le_refl _), cond_false])
theorem sEqualEntry (a b : List Entry) (hm : a.length ≤ 1048576) : slices_Equal_Entry a b = some (eqL eq_Entry a b) := by
  unfold slices_Equal_Entry
  by_cases h : a.length = b.length
  · have h' : ln a = ln b := by rw [ln_eq, ln_eq, h]
    rw [runEqualEntry a b h hm, decide_eq_true h']
    cases eqL eq_Entry a b <;> rfl
  · have h' : ¬ ln a = ln b := by rw [ln_eq, ln_eq]; omega
    rw [decide_eq_false h', eqL_ne h]; rfl
theorem runEqualMark (a b : List Mark) (hl : a.length = b.length) (hm : a.length ≤ 1048576) : run (slices_Equal_Mark_l4 a b (ln a)) 0 = some (bif eqL eq_Mark a b then .brk () else .ret false) :=
  run_eqL a b eq_Mark hl (fun i h h' => by
      simp only [slices_Equal_Mark_l4, lt_ln h, inb_n h, inb_n h', gt_n h, gt_n h', w64_n (show (i : Int) < 9223372036854775807 by omega), cond_true, need_true]
      cases eq_Mark _ _ <;> rfl) (by simp only [slices_Equal_Mark_l4, ge_ln (Nat.le_refl _), cond_false])
theorem sEqualMark (a b : List Mark) (hm : a.length ≤ 1048576) : slices_Equal_Mark a b = some (eqL eq_Mark a b) := by
  unfold slices_Equal_Mark
  by_cases h : a.length = b.length
  · have h' : ln a = ln b := by rw [ln_eq, ln_eq, h]
    rw [runEqualMark a b h hm, decide_eq_true h']
    cases eqL eq_Mark a b <;> rfl
  · have h' : ¬ ln a = ln b := by rw [ln_eq, ln_eq]; omega
    rw [decide_eq_false h', eqL_ne h]; rfl
theorem run_spec_l33Lists_l4 (a b : House) (hl : a.Finds.length = b.Finds.length) (hm : a.Finds.length ≤ 1048576) : run (spec_l33Lists_l4 a b) 0 = some (bif eqL eq_Find a.Finds b.Finds then .brk () else .ret false) :=
  run_eqL (a.Finds) (b.Finds) eq_Find hl (fun i h h' => by
      simp only [spec_l33Lists_l4, lt_ln h, inb_n h, inb_n h', gt_n h, gt_n h', w64_n (show (i : Int) < 9223372036854775807 by omega), cond_true, need_true]
      cases eq_Find _ _ <;> rfl) (by simp only [spec_l33Lists_l4, ge_ln (Nat.le_refl _), cond_false])
theorem run_spec_l33Lists_l9 (a b : House) (hl : a.Slots.length = b.Slots.length) (hm : a.Slots.length ≤ 1048576) : run (spec_l33Lists_l9 a b) 0 = some (bif eqL eq_Slot a.Slots b.Slots then .brk () else .ret false) :=
  run_eqL (a.Slots) (b.Slots) eq_Slot hl (fun i h h' => by
      simp only [spec_l33Lists_l9, lt_ln h, inb_n h, inb_n h', gt_n h, gt_n h', w64_n (show (i : Int) < 9223372036854775807 by omega), cond_true, need_true]
      cases eq_Slot _ _ <;> rfl) (by simp only [spec_l33Lists_l9, ge_ln (Nat.le_refl _), cond_false])
theorem run_spec_l33Lists_l14 (a b : House) (hl : a.Claims.length = b.Claims.length) (hm : a.Claims.length ≤ 1048576) : run (spec_l33Lists_l14 a b) 0 = some (bif eqL eq_Claim a.Claims b.Claims then .brk () else .ret false) :=
  run_eqL (a.Claims) (b.Claims) eq_Claim hl (fun i h h' => by
      simp only [spec_l33Lists_l14, lt_ln h, inb_n h, inb_n h', gt_n h, gt_n h', w64_n (show (i : Int) < 9223372036854775807 by omega), cond_true, need_true]
      cases eq_Claim _ _ <;> rfl) (by simp only [spec_l33Lists_l14, ge_ln (Nat.le_refl _), cond_false])
theorem run_spec_l33Lists_l19 (a b : House) (hl : a.Trials.length = b.Trials.length) (hm : a.Trials.length ≤ 1048576) : run (spec_l33Lists_l19 a b) 0 = some (bif eqL eq_Trial a.Trials b.Trials then .brk () else .ret false) :=
  run_eqL (a.Trials) (b.Trials) eq_Trial hl (fun i h h' => by
      simp only [spec_l33Lists_l19, lt_ln h, inb_n h, inb_n h', gt_n h, gt_n h', w64_n (show (i : Int) < 9223372036854775807 by omega), cond_true, need_true]
      cases eq_Trial _ _ <;> rfl) (by simp only [spec_l33Lists_l19, ge_ln (Nat.le_refl _), cond_false])
theorem run_spec_l33Chains_l4 (a b : House) (hl : a.Chain.length = b.Chain.length) (hm : a.Chain.length ≤ 1048576) : run (spec_l33Chains_l4 a b) 0 = some (bif eqL eq_Hand a.Chain b.Chain then .brk () else .ret false) :=
  run_eqL (a.Chain) (b.Chain) eq_Hand hl (fun i h h' => by
      simp only [spec_l33Chains_l4, lt_ln h, inb_n h, inb_n h', gt_n h, gt_n h', w64_n (show (i : Int) < 9223372036854775807 by omega), cond_true, need_true]
      cases eq_Hand _ _ <;> rfl) (by simp only [spec_l33Chains_l4, ge_ln (Nat.le_refl _), cond_false])
theorem run_spec_l33Chains_l9 (a b : House) (hl : a.Book.length = b.Book.length) (hm : a.Book.length ≤ 1048576) : run (spec_l33Chains_l9 a b) 0 = some (bif eqL eq_Entry a.Book b.Book then .brk () else .ret false) :=
  run_eqL (a.Book) (b.Book) eq_Entry hl (fun i h h' => by
      simp only [spec_l33Chains_l9, lt_ln h, inb_n h, inb_n h', gt_n h, gt_n h', w64_n (show (i : Int) < 9223372036854775807 by omega), cond_true, need_true]
      cases eq_Entry _ _ <;> rfl) (by simp only [spec_l33Chains_l9, ge_ln (Nat.le_refl _), cond_false])
theorem run_l31Marks (a b : List Mark) (hl : a.length = b.length) (hm : a.length ≤ 1048576) : run (spec_l31Marks_l4 a b) 0 = some (bif eqL eq_Mark a b then .brk () else .ret false) :=
  run_eqL (a) (b) eq_Mark hl (fun i h h' => by
      simp only [spec_l31Marks_l4, lt_ln h, inb_n h, inb_n h', gt_n h, gt_n h', w64_n (show (i : Int) < 9223372036854775807 by omega), cond_true, need_true]
      cases eq_Mark _ _ <;> rfl) (by simp only [spec_l31Marks_l4, ge_ln (Nat.le_refl _), cond_false])
theorem l31Marks (a b : List Mark) (hm : a.length ≤ 1048576) : spec_l31Marks a b = some (eqL eq_Mark a b) := by
  unfold spec_l31Marks
  by_cases h : a.length = b.length
  · have h' : ln a = ln b := by rw [ln_eq, ln_eq, h]
    rw [run_l31Marks a b h hm, decide_eq_true h']
    cases eqL eq_Mark a b <;> rfl
  · have h' : ¬ ln a = ln b := by rw [ln_eq, ln_eq]; omega
    rw [decide_eq_false h', eqL_ne h]; rfl
def eqSecret (x y : Secret) : Bool := decide (x.Thing = y.Thing) && (decide (x.Salt = y.Salt) && eqL eq_Mark x.Marks y.Marks)
theorem equalSecrets (a b : List Secret) (hm : smL sm_Secret a) : spec_EqualSecrets a b = some (eqL eqSecret a b) ∧ impl_EqualSecrets a b = some (eqL eqSecret a b) := by
  have hm1 := hm.1
  by_cases h : a.length = b.length
  · have h' : ln a = ln b := by rw [ln_eq, ln_eq, h]
    have e1 : run (spec_EqualSecrets_l4 a b) 0 = some (bif eqL eqSecret a b then .brk () else .ret false) :=
      run_eqL a b eqSecret h (fun i hi hi' => by
        have hs : a[i].Marks.length ≤ 1048576 := hm.2 _ (List.getElem_mem hi)
        simp only [spec_EqualSecrets_l4, lt_ln hi, inb_n hi, inb_n hi', gt_n hi, gt_n hi', w64_n (show (i : Int) < 9223372036854775807 by omega), cond_true, need_true, l31Marks _ _ hs, Option.bind_some, eqSecret]
        cases decide (a[i].Thing = b[i].Thing) <;> cases decide (a[i].Salt = b[i].Salt) <;> cases eqL eq_Mark a[i].Marks b[i].Marks <;> rfl) (by simp only [spec_EqualSecrets_l4, ge_ln (Nat.le_refl _), cond_false])
    have e2 : run (slices_EqualFunc_Secret_c110_l4 b a (ln a)) 0 = some (bif eqL eqSecret a b then .brk () else .ret false) :=
      run_eqL a b eqSecret h (fun i hi hi' => by
        have hs : a[i].Marks.length ≤ 1048576 := hm.2 _ (List.getElem_mem hi)
        simp only [slices_EqualFunc_Secret_c110_l4, lt_ln hi, inb_n hi, inb_n hi', gt_n hi, gt_n hi', w64_n (show (i : Int) < 9223372036854775807 by omega), cond_true, need_true, impl_EqualSecrets_1, sEqualMark _ _ hs, Option.bind_some, eqSecret]
        cases decide (a[i].Thing = b[i].Thing) <;> cases decide (a[i].Salt = b[i].Salt) <;> cases eqL eq_Mark a[i].Marks b[i].Marks <;> rfl) (by simp only [slices_EqualFunc_Secret_c110_l4, ge_ln (Nat.le_refl _), cond_false])
    unfold spec_EqualSecrets impl_EqualSecrets slices_EqualFunc_Secret_c110
    rw [e1, e2, decide_eq_true h']
    cases eqL eqSecret a b <;> exact ⟨rfl, rfl⟩
  · have h' : ¬ ln a = ln b := by rw [ln_eq, ln_eq]; omega
    unfold spec_EqualSecrets impl_EqualSecrets slices_EqualFunc_Secret_c110
    rw [decide_eq_false h', eqL_ne h]; exact ⟨rfl, rfl⟩
theorem l33Lists (a b : House) (hm : sm_House a) : spec_l33Lists a b = some (eqL eq_Find a.Finds b.Finds && (eqL eq_Slot a.Slots b.Slots && (eqL eq_Claim a.Claims b.Claims && eqL eq_Trial a.Trials b.Trials))) := by
  unfold sm_House at hm
  obtain ⟨m1, m2, m3, m4, m5, m6, m7⟩ := hm
  unfold spec_l33Lists
  by_cases h1 : a.Finds.length = b.Finds.length
  · by_cases h2 : a.Slots.length = b.Slots.length
    · by_cases h3 : a.Claims.length = b.Claims.length
      · by_cases h4 : a.Trials.length = b.Trials.length
        · rw [run_spec_l33Lists_l4 a b h1 m1, run_spec_l33Lists_l9 a b h2 m3, run_spec_l33Lists_l14 a b h3 m4, run_spec_l33Lists_l19 a b h4 m5]
          simp only [ln_eq, h1, h2, h3, h4, decide_true, Bool.not_true, Bool.or_self, cond_false]
          cases eqL eq_Find a.Finds b.Finds <;> cases eqL eq_Slot a.Slots b.Slots <;> cases eqL eq_Claim a.Claims b.Claims <;> cases eqL eq_Trial a.Trials b.Trials <;> rfl
        · have : ¬ ln a.Trials = ln b.Trials := by rw [ln_eq, ln_eq]; omega
          rw [eqL_ne h4]; simp [this]
      · have : ¬ ln a.Claims = ln b.Claims := by rw [ln_eq, ln_eq]; omega
        rw [eqL_ne h3]; simp [this]
    · have : ¬ ln a.Slots = ln b.Slots := by rw [ln_eq, ln_eq]; omega
      rw [eqL_ne h2]; simp [this]
  · have : ¬ ln a.Finds = ln b.Finds := by rw [ln_eq, ln_eq]; omega
    rw [eqL_ne h1]; simp [this]
theorem l33Chains (a b : House) (hm : sm_House a) : spec_l33Chains a b = some (eqL eq_Hand a.Chain b.Chain && eqL eq_Entry a.Book b.Book) := by
  unfold sm_House at hm
  obtain ⟨m1, m2, m3, m4, m5, m6, m7⟩ := hm
  unfold spec_l33Chains
  by_cases h1 : a.Chain.length = b.Chain.length
  · by_cases h2 : a.Book.length = b.Book.length
    · rw [run_spec_l33Chains_l4 a b h1 m6, run_spec_l33Chains_l9 a b h2 m7]
      simp only [ln_eq, h1, h2, decide_true, Bool.not_true, Bool.or_self, cond_false]
      cases eqL eq_Hand a.Chain b.Chain <;> cases eqL eq_Entry a.Book b.Book <;> rfl
    · have : ¬ ln a.Book = ln b.Book := by rw [ln_eq, ln_eq]; omega
      rw [eqL_ne h2]; simp [this]
  · have : ¬ ln a.Chain = ln b.Chain := by rw [ln_eq, ln_eq]; omega
    rw [eqL_ne h1]; simp [this]
theorem equalHouses (a b : House) (hm : sm_House a) : ∃ c, spec_EqualHouses a b = some c ∧ impl_EqualHouses a b = some c := by
  have h1 := l33Lists a b hm
  have h2 := l33Chains a b hm
  unfold sm_House at hm
  obtain ⟨m1, m2, m3, m4, m5, m6, m7⟩ := hm
  obtain ⟨s1, s2⟩ := equalSecrets a.Secrets b.Secrets m2
  refine ⟨decide (a.No = b.No) && (decide (a.Now = b.Now) && (eqL eqSecret a.Secrets b.Secrets && (eqL eq_Find a.Finds b.Finds && (eqL eq_Slot a.Slots b.Slots && (eqL eq_Claim a.Claims b.Claims && (eqL eq_Trial a.Trials b.Trials && (eqL eq_Hand a.Chain b.Chain && eqL eq_Entry a.Book b.Book))))))), ?_, ?_⟩
  · unfold spec_EqualHouses
    rw [s1, h1, h2]
    cases decide (a.No = b.No) <;> cases decide (a.Now = b.Now) <;> cases eqL eqSecret a.Secrets b.Secrets <;> cases eqL eq_Find a.Finds b.Finds <;> cases eqL eq_Slot a.Slots b.Slots <;> cases eqL eq_Claim a.Claims b.Claims <;> cases eqL eq_Trial a.Trials b.Trials <;> rfl
  · unfold impl_EqualHouses
    rw [s2, sEqualFind _ _ m1, sEqualSlot _ _ m3, sEqualClaim _ _ m4, sEqualTrial _ _ m5, sEqualHand _ _ m6, sEqualEntry _ _ m7]
    cases decide (a.No = b.No) <;> cases decide (a.Now = b.Now) <;> cases eqL eqSecret a.Secrets b.Secrets <;> cases eqL eq_Find a.Finds b.Finds <;> cases eqL eq_Slot a.Slots b.Slots <;> cases eqL eq_Claim a.Claims b.Claims <;> cases eqL eq_Trial a.Trials b.Trials <;> first | rfl | (cases eqL eq_Hand a.Chain b.Chain <;> rfl)
end Go.Proofs.Ytcpelionmmnogaa
