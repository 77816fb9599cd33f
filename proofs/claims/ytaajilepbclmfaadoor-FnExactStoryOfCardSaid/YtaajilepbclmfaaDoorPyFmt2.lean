/- Slots, claims and stories as texts: the program's answers are the reference's. No condition but the length. -/
import Derived.Test.YtaajilepbclmfaaDoorPyFmt
namespace Go.Proofs.YtaajilepbclmfaaDoor
open Go
set_option linter.unusedVariables false
set_option linter.unusedSimpArgs false
theorem fitS {x y : List UInt8} (hx : x.length ≤ 150) (hy : y.length ≤ 150) : sfit x y = true := sfit_ok (by omega) (by omega)
theorem one_len (c : UInt8) : ([c] : List UInt8).length ≤ 150 := by simp
/-- Slots. -/
def slotT (x : Slot) : List UInt8 := scat (scat (Lib.itoa x.Id) [58]) (bif !decide (x.Thing = 0) then Lib.itoa x.Thing else [46])
theorem slotT_len (x : Slot) (h1 : i64 x.Id) (h2 : i64 x.Thing) : (slotT x).length ≤ 200 := by
  have a := itoa_len _ h1; have b := itoa_len _ h2
  unfold slotT
  cases (!decide (x.Thing = 0)) <;> simp only [cond_true, cond_false, scat_len, List.length_cons, List.length_nil] <;> omega
theorem formatSlots (l : List Slot) (hl : l.length ≤ 1048576) (hx : ∀ x ∈ l, i64 x.Id ∧ i64 x.Thing) : ∃ r, spec_FormatSlots l = some r ∧ impl_FormatSlots l = some r := by
  have hsh : short (l.map slotT) := short_map hl fun x h => slotT_len x (hx x h).1 (hx x h).2
  have fits : ∀ {a b : List UInt8}, a.length ≤ 21 → b.length ≤ 21 → sfit a [58] = true ∧ sfit (scat a [58]) b = true := fun {a b} ha hb =>
    ⟨fitS (by omega) (one_len _), fitS (by rw [scat_len]; simp only [List.length_cons, List.length_nil]; omega) (by omega)⟩
  have hs := run_map_texts l slotT (step := spec_FormatSlots_l3 l) (fun i out hi ho => by
      have hm := hx _ (List.getElem_mem hi)
      have a := itoa_len _ hm.1; have b := itoa_len _ hm.2
      simp only [spec_FormatSlots_l3, lt_ln hi, inb_n hi, gt_n hi, w64_n (show (i : Int) < 9223372036854775807 by omega), rm_ok (show out.length + 1 ≤ 2000000 by omega) (show 16 ≤ 1024 by omega), cond_true, need_true, spec_fmt _ hm.1, spec_fmt _ hm.2, Option.bind_some,
        (fits a b).1, (fits a b).2, (fits a (show ([46] : List UInt8).length ≤ 21 by simp)).2, slotT]
      cases decide (l[i].Thing = 0) <;> rfl)
    (fun out => by simp only [spec_FormatSlots_l3, ge_ln (Nat.le_refl _), cond_false])
  have hi := run_map_texts l slotT (step := impl_FormatSlots_l3 l (ln l)) (fun i out hi ho => by
      have hm := hx _ (List.getElem_mem hi)
      have a := itoa_len _ hm.1; have b := itoa_len _ hm.2
      simp only [impl_FormatSlots_l3, lt_ln hi, inb_n hi, gt_n hi, w64_n (show (i : Int) < 9223372036854775807 by omega), rm_ok (show out.length + 1 ≤ 2000000 by omega) (show 16 ≤ 1024 by omega), cond_true, need_true, impl_fmt _ hm.1, impl_fmt _ hm.2, Option.bind_some,
        (fits a b).1, (fits a b).2, (fits a (show ([46] : List UInt8).length ≤ 21 by simp)).2, slotT]
      cases decide (l[i].Thing = 0) <;> rfl)
    (fun out => by simp only [impl_FormatSlots_l3, ge_ln (Nat.le_refl _), cond_false])
  refine ⟨joinedT (l.map slotT), ?_, ?_⟩
  · unfold spec_FormatSlots; rw [hs]; simp only [Option.bind_some, spec_join _ hsh]
  · unfold impl_FormatSlots; rw [hi]; simp only [Option.bind_some, impl_join _ hsh]
/-- Claims. -/
def stateT (x : Claim) : List UInt8 := bif decide (0 ≤ x.State) && decide (x.State ≤ 3) then cut [111, 112, 102, 115] x.State (w64 (x.State + 1)) else [63]
def claimT (x : Claim) : List UInt8 := scat (scat (scat (scat (scat (Lib.itoa x.Id) [58]) (Lib.itoa x.Who)) [62]) (Lib.itoa x.Thing)) (stateT x)
theorem cut_le {α : Type} (l : List α) (a b : Int) : (cut l a b).length ≤ l.length := by
  unfold cut
  simp
  omega
theorem stateT_len (x : Claim) : (stateT x).length ≤ 4 := by
  unfold stateT
  cases (decide (0 ≤ x.State) && decide (x.State ≤ 3)) with
  | true => exact cut_le _ _ _
  | false => simp
theorem claimT_len (x : Claim) (h1 : i64 x.Id) (h2 : i64 x.Who) (h3 : i64 x.Thing) : (claimT x).length ≤ 200 := by
  have a := itoa_len _ h1; have b := itoa_len _ h2; have c := itoa_len _ h3; have d := stateT_len x
  unfold claimT
  simp only [scat_len, List.length_cons, List.length_nil]
  omega
theorem claim_fits {a b c d : List UInt8} (ha : a.length ≤ 21) (hb : b.length ≤ 21) (hc : c.length ≤ 21) (hd : d.length ≤ 21) :
    sfit a [58] = true ∧ sfit (scat a [58]) b = true ∧ sfit (scat (scat a [58]) b) [62] = true ∧ sfit (scat (scat (scat a [58]) b) [62]) c = true ∧ sfit (scat (scat (scat (scat a [58]) b) [62]) c) d = true := by
  refine ⟨fitS ?_ ?_, fitS ?_ ?_, fitS ?_ ?_, fitS ?_ ?_, fitS ?_ ?_⟩ <;> (try simp only [scat_len, List.length_cons, List.length_nil]) <;> omega
theorem formatClaims (l : List Claim) (hl : l.length ≤ 1048576) (hx : ∀ x ∈ l, i64 x.Id ∧ i64 x.Who ∧ i64 x.Thing) : ∃ r, spec_FormatClaims l = some r ∧ impl_FormatClaims l = some r := by
  have hsh : short (l.map claimT) := short_map hl fun x h => claimT_len x (hx x h).1 (hx x h).2.1 (hx x h).2.2
  have hslB : ∀ s : Int, (decide (0 ≤ s) && decide (s ≤ 3)) = true → slB s (w64 (s + 1)) (ln [111, 112, 102, 115]) = true := by
    intro s hs
    simp only [Bool.and_eq_true, decide_eq_true_eq] at hs
    rw [w64_in (by omega) (by omega)]
    unfold slB
    rw [ln_eq]
    simp
    omega
  have hs := run_map_texts l claimT (step := spec_FormatClaims_l3 l) (fun i out hi ho => by
      obtain ⟨m1, m2, m3⟩ := hx _ (List.getElem_mem hi)
      have a := itoa_len _ m1; have b := itoa_len _ m2; have c := itoa_len _ m3
      obtain ⟨f1, f2, f3, f4, f5⟩ := claim_fits a b c (show (cut [111, 112, 102, 115] l[i].State (w64 (l[i].State + 1))).length ≤ 21 from Nat.le_trans (cut_le _ _ _) (by simp))
      obtain ⟨_, _, _, _, f6⟩ := claim_fits a b c (show ([63] : List UInt8).length ≤ 21 by simp)
      have hsl := hslB l[i].State
      simp only [spec_FormatClaims_l3, lt_ln hi, inb_n hi, gt_n hi, w64_n (show (i : Int) < 9223372036854775807 by omega), rm_ok (show out.length + 1 ≤ 2000000 by omega) (show 16 ≤ 1024 by omega), cond_true, need_true, spec_fmt _ m1, spec_fmt _ m2, spec_fmt _ m3, Option.bind_some,
        f1, f2, f3, f4, f5, f6, claimT, stateT, spec_l1In]
      cases hst : (decide (0 ≤ l[i].State) && decide (l[i].State ≤ 3)) with
      | false => rfl
      | true => rw [hsl hst]; rfl)
    (fun out => by simp only [spec_FormatClaims_l3, ge_ln (Nat.le_refl _), cond_false])
  have hi := run_map_texts l claimT (step := impl_FormatClaims_l3 l (ln l)) (fun i out hi ho => by
      obtain ⟨m1, m2, m3⟩ := hx _ (List.getElem_mem hi)
      have a := itoa_len _ m1; have b := itoa_len _ m2; have c := itoa_len _ m3
      obtain ⟨f1, f2, f3, f4, f5⟩ := claim_fits a b c (show (cut [111, 112, 102, 115] l[i].State (w64 (l[i].State + 1))).length ≤ 21 from Nat.le_trans (cut_le _ _ _) (by simp))
      obtain ⟨_, _, _, _, f6⟩ := claim_fits a b c (show ([63] : List UInt8).length ≤ 21 by simp)
      have hsl := hslB l[i].State
      simp only [impl_FormatClaims_l3, lt_ln hi, inb_n hi, gt_n hi, w64_n (show (i : Int) < 9223372036854775807 by omega), rm_ok (show out.length + 1 ≤ 2000000 by omega) (show 16 ≤ 1024 by omega), cond_true, need_true, impl_fmt _ m1, impl_fmt _ m2, impl_fmt _ m3, Option.bind_some,
        f1, f2, f3, f4, f5, f6, claimT, stateT, impl_InRange]
      cases hst : (decide (0 ≤ l[i].State) && decide (l[i].State ≤ 3)) with
      | false => rfl
      | true => rw [hsl hst]; rfl)
    (fun out => by simp only [impl_FormatClaims_l3, ge_ln (Nat.le_refl _), cond_false])
  refine ⟨joinedT (l.map claimT), ?_, ?_⟩
  · unfold spec_FormatClaims; rw [hs]; simp only [Option.bind_some, spec_join _ hsh]
  · unfold impl_FormatClaims; rw [hi]; simp only [Option.bind_some, impl_join _ hsh]
/-- Stories. -/
theorem holderTextB (h : Int) : ∃ c, spec_HolderText h = some c ∧ impl_HolderText h = some c ∧ c.length ≤ 6 := by
  by_cases hk : 1 ≤ h ∧ h ≤ 5
  · obtain ⟨h2, h3⟩ := hk
    have : h = 1 ∨ h = 2 ∨ h = 3 ∨ h = 4 ∨ h = 5 := by omega
    rcases this with rfl | rfl | rfl | rfl | rfl <;> exact ⟨_, rfl, rfl, by decide⟩
  · have e : (decide (1 ≤ h) && decide (h ≤ 5)) = false := by
      by_cases h2 : 1 ≤ h
      · have h3 : ¬ h ≤ 5 := by omega
        simp [h2, h3]
      · simp [h2]
    exact ⟨[], by unfold spec_HolderText spec_l1In; simp [e], by unfold impl_HolderText impl_InRange; simp [e], by simp⟩
noncomputable def holdT (h : Int) : List UInt8 := (spec_HolderText h).getD []
theorem holdT_eq (h : Int) : spec_HolderText h = some (holdT h) ∧ impl_HolderText h = some (holdT h) ∧ (holdT h).length ≤ 6 := by
  obtain ⟨c, h1, h2, h3⟩ := holderTextB h
  unfold holdT
  rw [h1, h2]
  exact ⟨rfl, rfl, h3⟩
noncomputable def handT (x : Hand) : List UInt8 := scat (scat (scat (holdT x.Holder) (Lib.itoa x.Who)) [43]) (Lib.itoa x.At)
theorem handT_len (x : Hand) (h1 : i64 x.Who) (h2 : i64 x.At) : (handT x).length ≤ 200 := by
  have a := itoa_len _ h1; have b := itoa_len _ h2; have c := (holdT_eq x.Holder).2.2
  unfold handT
  simp only [scat_len, List.length_cons, List.length_nil]
  omega
theorem handsOfC (l : List Hand) (t : Int) (h : l.length ≤ 1048576) : spec_HandsOf l t = some (l.filter fun x => decide (x.Thing = t)) ∧ impl_HandsOf l t = some (l.filter fun x => decide (x.Thing = t)) := by
  have hr := run_filter l (fun x => decide (x.Thing = t)) (fun x => x) (step := spec_HandsOf_l3 l t) (fun i out hi ho => by
      simp only [spec_HandsOf_l3, lt_ln hi, inb_n hi, gt_n hi, w64_n (show (i : Int) < 9223372036854775807 by omega), rm_ok (show out.length + 1 ≤ 2000000 by omega) (show 40 ≤ 1024 by omega), cond_true, need_true]
      cases decide (l[i].Thing = t) <;> rfl)
    (fun out => by simp only [spec_HandsOf_l3, ge_ln (Nat.le_refl _), cond_false])
  rw [List.map_id'] at hr
  exact ⟨by unfold spec_HandsOf; rw [hr]; rfl, by unfold impl_HandsOf; rw [show impl_HandsOf_l3 t l (ln l) = spec_HandsOf_l3 l t from rfl, hr]; rfl⟩
theorem scat_assoc (a b c : List UInt8) : scat (scat a b) c = scat a (scat b c) := by simp [scat]
theorem storyOf (l : List Hand) (t : Int) (hl0 : l.length ≤ 1048576) (hx0 : ∀ x ∈ l, i64 x.Who ∧ i64 x.At) : ∃ r, spec_StoryOf l t = some r ∧ impl_StoryOf l t = some r := by
  obtain ⟨e1, e2⟩ := handsOfC l t hl0
  have hl : (l.filter fun x => decide (x.Thing = t)).length ≤ 1048576 := Nat.le_trans (List.length_filter_le _ _) hl0
  have hx : ∀ x ∈ l.filter (fun x => decide (x.Thing = t)), i64 x.Who ∧ i64 x.At := fun x h => hx0 x (List.mem_filter.1 h).1
  generalize l.filter (fun x => decide (x.Thing = t)) = m at e1 e2 hl hx
  have hsh : short (m.map handT) := short_map hl fun x h => handT_len x (hx x h).1 (hx x h).2
  have hi := run_map_texts m handT (step := impl_StoryOf_l3 m (ln m)) (fun i out hi ho => by
      obtain ⟨m1, m2⟩ := hx _ (List.getElem_mem hi)
      have a := itoa_len _ m1; have b := itoa_len _ m2
      obtain ⟨_, q2, q3⟩ := holdT_eq m[i].Holder
      have f1 : sfit (holdT m[i].Holder) (Lib.itoa m[i].Who) = true := fitS (by omega) (by omega)
      have f2 : sfit (scat (holdT m[i].Holder) (Lib.itoa m[i].Who)) [43] = true := fitS (by rw [scat_len]; omega) (one_len _)
      have f3 : sfit (scat (scat (holdT m[i].Holder) (Lib.itoa m[i].Who)) [43]) (Lib.itoa m[i].At) = true := fitS (by rw [scat_len, scat_len]; simp only [List.length_cons, List.length_nil]; omega) (by omega)
      simp only [impl_StoryOf_l3, lt_ln hi, inb_n hi, gt_n hi, w64_n (show (i : Int) < 9223372036854775807 by omega), rm_ok (show out.length + 1 ≤ 2000000 by omega) (show 16 ≤ 1024 by omega), cond_true, need_true, impl_fmt _ m1, impl_fmt _ m2, q2, Option.bind_some, f1, f2, f3]
      rfl)
    (fun out => by simp only [impl_StoryOf_l3, ge_ln (Nat.le_refl _), cond_false])
  have hs := run_join (m.map handT) hsh (step := spec_StoryOf_l4 m) (fun i s hi hs => by
      have him : i < m.length := by simpa using hi
      obtain ⟨m1, m2⟩ := hx _ (List.getElem_mem him)
      have a := itoa_len _ m1; have b := itoa_len _ m2
      obtain ⟨q1, _, q3⟩ := holdT_eq m[i].Holder
      have eg : (m.map handT)[i] = handT m[i] := by simp
      have fit : ∀ {x y : List UInt8}, x.length ≤ 400000000 → y.length ≤ 400000000 → sfit x y = true := fun h1 h2 => sfit_ok (by omega) (by omega)
      have ends : ∀ p : List UInt8, p.length ≤ 300000001 → sfit p (holdT m[i].Holder) = true ∧ sfit (scat p (holdT m[i].Holder)) (Lib.itoa m[i].Who) = true ∧ sfit (scat (scat p (holdT m[i].Holder)) (Lib.itoa m[i].Who)) [43] = true ∧
          sfit (scat (scat (scat p (holdT m[i].Holder)) (Lib.itoa m[i].Who)) [43]) (Lib.itoa m[i].At) = true := by
        intro p hp
        refine ⟨fit ?_ ?_, fit ?_ ?_, fit ?_ ?_, fit ?_ ?_⟩ <;> (try simp only [scat_len, List.length_cons, List.length_nil]) <;> omega
      have asc : ∀ p : List UInt8, scat (scat (scat (scat p (holdT m[i].Holder)) (Lib.itoa m[i].Who)) [43]) (Lib.itoa m[i].At) = scat p (handT m[i]) := fun p => by unfold handT; simp only [scat_assoc]
      simp only [spec_StoryOf_l4, lt_ln him, inb_n him, gt_n him, w64_n (show (i : Int) < 9223372036854775807 by omega), cond_true, need_true, spec_fmt _ m1, spec_fmt _ m2, q1, Option.bind_some, eg]
      by_cases h0 : 0 < i
      · obtain ⟨g1, g2, g3, g4⟩ := ends (scat s [32]) (by rw [scat_len]; simp only [List.length_cons, List.length_nil]; omega)
        rw [decide_eq_true (show (0 : Int) < i by omega), if_pos h0, fit (x := s) (y := [32]) (by omega) (by simp)]
        simp only [cond_true, need_true, g1, g2, g3, g4, asc]
      · obtain ⟨g1, g2, g3, g4⟩ := ends s (by omega)
        rw [decide_eq_false (show ¬ (0 : Int) < i by omega), if_neg h0]
        simp only [cond_false, need_true, g1, g2, g3, g4, asc])
    (fun s => by
      rw [List.length_map]
      simp only [spec_StoryOf_l4, ge_ln (Nat.le_refl _), cond_false])
  refine ⟨joinedT (m.map handT), ?_, ?_⟩
  · unfold spec_StoryOf
    rw [e1]
    simp only [Option.bind_some]
    rw [hs]
    unfold joinedT
    cases m with
    | nil => rfl
    | cons x m =>
      rw [if_neg (by simp)]
      simp only [Option.bind_some, show decide (ln (x :: m) = 0) = false from decide_eq_false (by rw [ln_eq]; simp; omega), cond_false]
  · unfold impl_StoryOf
    rw [e2]
    simp only [Option.bind_some]
    rw [hi]
    unfold joinedT
    cases m with
    | nil => rfl
    | cons x m =>
      rw [if_neg (by simp)]
      simp only [Option.bind_some, strs_join _ hsh, show decide (ln ((x :: m).map handT) = 0) = false from decide_eq_false (by rw [ln_eq]; simp; omega), cond_false]
end Go.Proofs.YtaajilepbclmfaaDoor
