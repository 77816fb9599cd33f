/- A find put in its place. The program's answers are the reference's. No condition but the length. -/
import Derived.Test.YtcdffihcfeajfaaGreatPyIns
import Derived.Test.YtcdffihcfeajfaaGreatPyHand
import Derived.Test.YtcdffihcfeajfaaGreatPyStp
namespace Go.Proofs.YtcdffihcfeajfaaGreat
open Go
set_option linter.unusedVariables false
set_option linter.unusedSimpArgs false
theorem findIx_has (l : List Find) (id : Int) : findIx l id = -1 ∨ ∃ k : Nat, ∃ hk : k < l.length, findIx l id = (k : Int) ∧ l[k].Thing.Id = id := by
  unfold findIx
  cases hf : l.findIdx? (fun x => decide (x.Thing.Id = id)) with
  | none => exact .inl rfl
  | some i =>
    obtain ⟨hi, hp⟩ := find_at hf
    exact .inr ⟨i, hi, rfl, by simpa using hp⟩
theorem putFind (l : List Find) (f : Find) (hl : l.length ≤ 1048576) : ∃ r, spec_PutFind l f = some r ∧ impl_PutFind l f = some r ∧ r.1.length ≤ 1048576 := by
  obtain ⟨k, hk, hr⟩ := run_pos (n := l.length) (fun i => decide ((gt l (i : Int)).Thing.Id < f.Thing.Id)) (step := spec_PutFind_l2 l f)
    (fun i hi => by
      simp only [spec_PutFind_l2, lt_ln hi, inb_n hi, w64_n (show (i : Int) < 9223372036854775807 by omega), cond_true, need_true, Option.bind_some]
      cases decide ((gt l (i : Int)).Thing.Id < f.Thing.Id) <;> rfl)
    (by simp only [spec_PutFind_l2, ge_ln (Nat.le_refl _), cond_false]; rfl)
  have hr2 : run (impl_PutFind_l5 l f l) 0 = some (k : Int) := hr
  have hlen := ins_len l k hk f
  obtain ⟨b, b1, b2, b3⟩ := areFindsL (insL l (k : Int) [f]) (by omega)
  have hrm : rm (0 + l.length) 64 = true := rm_ok (by omega) (by omega)
  have hrm1 : rm (0 + (cut l 0 (k : Int)).length) 64 = true := rm_ok (by rw [cut_take, List.length_take]; omega) (by omega)
  have hrm2 : rm ((cut l 0 (k : Int)).length + 1) 64 = true := rm_ok (by rw [cut_take, List.length_take]; omega) (by omega)
  have hrm3 : rm ((cut l 0 (k : Int)).length + 1 + (cut l (k : Int) (ln l)).length) 64 = true := rm_ok (by rw [cut_take, cut_drop, List.length_take, List.length_drop]; omega) (by omega)
  have hs : spec_PutFind l f = some (bif b then (insL l (k : Int) [f], true) else (l, false)) := by
    unfold spec_PutFind
    simp only [hr, ln_eq, slB_ok hk, slB_end hk, Option.bind_some, need_true]
    rw [← ln_eq]
    simp only [hrm1, hrm2, hrm3, hrm, ins_cut, b1, need_true, Option.bind_some]
    cases b <;> rfl
  refine ⟨_, hs, ?_, ?_⟩
  · unfold impl_PutFind slices_Clone_Find
    simp only [hrm, need_true, Option.bind_some, (findThing l f.Thing.Id hl).2, hr2, insB_ok l k hk f 64 hl (by omega), b2]
    rcases findIx_has l f.Thing.Id with h | ⟨j, hj, h, hid⟩
    · rw [h]; cases b <;> rfl
    · rw [h, decide_eq_true (show (0 : Int) ≤ (j : Int) by omega)]
      cases b with
      | false => rfl
      | true => exact absurd (ins_dup (fun x : Find => x.Thing.Id) l k hk f (b3 rfl).2.2 j hj hid) id
  · cases b with
    | false => exact hl
    | true => have := (b3 rfl).1; show (insL l (k : Int) [f]).length ≤ _; omega
/-- Secrets by thing. -/
theorem secretOf (l : List Secret) (t : Int) (hl : l.length ≤ 1048576) : impl_secretOf l t = some (-1) ∨ ∃ k : Nat, ∃ hk : k < l.length, impl_secretOf l t = some (k : Int) ∧ l[k].Thing = t := by
  have hi := run_find l (fun x => decide (x.Thing = t)) (fun i => (i : Int)) (step := slices_IndexFunc_Secret_cimpl_secretOf_1_l2 l t (ln l))
    (fun i hi => by
      simp only [slices_IndexFunc_Secret_cimpl_secretOf_1_l2, impl_secretOf_1, Option.bind_some, lt_ln hi, inb_n hi, gt_n hi, w64_n (show (i : Int) < 9223372036854775807 by omega), cond_true, need_true]
      cases decide (l[i].Thing = t) <;> rfl)
    (by simp only [slices_IndexFunc_Secret_cimpl_secretOf_1_l2, ge_ln (Nat.le_refl _), cond_false])
  unfold impl_secretOf slices_IndexFunc_Secret_cimpl_secretOf_1
  rw [hi]
  cases hf : l.findIdx? (fun x => decide (x.Thing = t)) with
  | none => exact .inl rfl
  | some i =>
    obtain ⟨hi', hp⟩ := find_at hf
    exact .inr ⟨i, hi', rfl, by simpa using hp⟩
theorem smL_take {α : Type} {sm : α → Prop} {l : List α} (h : smL sm l) (k : Nat) : smL sm (l.take k) := ⟨by have := h.1; rw [List.length_take]; omega, fun x hx => h.2 x (List.mem_of_mem_take hx)⟩
theorem smL_drop {α : Type} {sm : α → Prop} {l : List α} (h : smL sm l) (k : Nat) : smL sm (l.drop k) := ⟨by have := h.1; rw [List.length_drop]; omega, fun x hx => h.2 x (List.mem_of_mem_drop hx)⟩
theorem putSecret (l : List Secret) (x : Secret) (hm : smL sm_Secret l) (hx : x.Marks.length ≤ 1048576) : ∃ r, spec_PutSecret l x = some r ∧ impl_PutSecret l x = some r ∧ smL sm_Secret r.1 := by
  have hl := hm.1
  obtain ⟨k, hk, hr⟩ := run_pos (n := l.length) (fun i => decide ((gt l (i : Int)).Thing < x.Thing)) (step := spec_PutSecret_l2 l x)
    (fun i hi => by
      simp only [spec_PutSecret_l2, lt_ln hi, inb_n hi, w64_n (show (i : Int) < 9223372036854775807 by omega), cond_true, need_true, Option.bind_some]
      cases decide ((gt l (i : Int)).Thing < x.Thing) <;> rfl)
    (by simp only [spec_PutSecret_l2, ge_ln (Nat.le_refl _), cond_false]; rfl)
  have hr2 : run (impl_PutSecret_l5 l x l) 0 = some (k : Int) := hr
  have hlen := ins_len l k hk x
  have hmem : ∀ y ∈ insL l (k : Int) [x], sm_Secret y := by
    intro y hy
    simp only [insL, Int.toNat_natCast, List.singleton_append, List.mem_append, List.mem_cons] at hy
    rcases hy with h | h | h
    · exact hm.2 y (List.mem_of_mem_take h)
    · subst h; exact hx
    · exact hm.2 y (List.mem_of_mem_drop h)
  obtain ⟨b, b1, b2, b3⟩ := areSecretsL (insL l (k : Int) [x]) (by omega) hmem
  have hrm1 : rm ((cut l 0 (k : Int)).length + [x].length) 40 = true := rm_ok (by rw [cut_take, List.length_take]; simp; omega) (by omega)
  have hrm3 : rm ((cut l 0 (k : Int)).length + [x].length + (cut l (k : Int) (ln l)).length) 40 = true := rm_ok (by rw [cut_take, cut_drop, List.length_take, List.length_drop]; simp; omega) (by omega)
  have c1 : spec_l31Copy (cut l 0 (k : Int)) = some (cut l 0 (k : Int)) := by rw [cut_take]; exact l31Copy _ (smL_take hm k)
  have c2 : spec_l31Copy (cut l (k : Int) (ln l)) = some (cut l (k : Int) (ln l)) := by rw [cut_drop]; exact l31Copy _ (smL_drop hm k)
  have c3 : spec_l31Copy [x] = some [x] := l31Copy _ ⟨by simp, fun y hy => by simp at hy; subst hy; exact hx⟩
  have hs : spec_PutSecret l x = some (bif b then (insL l (k : Int) [x], true) else (l, false)) := by
    unfold spec_PutSecret
    simp only [hr, Option.bind_some]
    rw [show slB 0 (k : Int) (ln l) = true from slB_ok hk, show slB (k : Int) (ln l) (ln l) = true from slB_end hk]
    simp only [need_true, c1, c2, c3, hrm1, hrm3, ins_cut, b1, l31Copy l hm, Option.bind_some]
    cases b <;> rfl
  refine ⟨_, hs, ?_, ?_⟩
  · unfold impl_PutSecret slices_Clone_Mark
    simp only [cloneSecrets l hm, Option.bind_some, hr2, rm_ok (show 0 + x.Marks.length ≤ 2000000 by omega) (show 16 ≤ 1024 by omega), need_true, show (⟨x.Thing, x.Marks, x.Salt⟩ : Secret) = x from rfl, insB_ok l k hk x 40 hl (by omega), b2]
    rcases secretOf l x.Thing hl with h | ⟨j, hj, h, hid⟩
    · rw [h]; cases b <;> rfl
    · rw [h]
      simp only [Option.bind_some, decide_eq_true (show (0 : Int) ≤ (j : Int) by omega)]
      cases b with
      | false => rfl
      | true => exact absurd (ins_dup (fun x : Secret => x.Thing) l k hk x (b3 rfl).2 j hj hid) id
  · cases b with
    | false => exact hm
    | true => exact ⟨by have := (b3 rfl).1; show (insL l (k : Int) [x]).length ≤ _; omega, hmem⟩
theorem putAway (l : List Slot) (x : Thing) (hl : l.length ≤ 1048576) : ∃ r, spec_PutAway l x = some r ∧ impl_PutAway l x = some r ∧ r.1.length = l.length := by
  obtain ⟨c, c1, c2, c3⟩ := areSlotsU l hl
  obtain ⟨t, t1, t2, _⟩ := isThingB x
  have hrm : rm (0 + l.length) 24 = true := rm_ok (by omega) (by omega)
  obtain ⟨v, hv, hq⟩ := run_inv (n := l.length) (step := spec_SmallestFree_l3 l x.Size) (fin := fun v => v) (fun i v => v = -1 ∨ ∃ j : Nat, j < i ∧ j < l.length ∧ v = (j : Int))
    (fun i v hi hv => by
      have hw := w64_n (show (i : Int) < 9223372036854775807 by omega)
      have hcase : spec_SmallestFree_l3 l x.Size (v, (i : Int)) = some (.inl ((i : Int), ((i + 1 : Nat) : Int))) ∨ spec_SmallestFree_l3 l x.Size (v, (i : Int)) = some (.inl (v, ((i + 1 : Nat) : Int))) := by
        rcases hv with rfl | ⟨j, hj, hjl, rfl⟩
        · simp only [spec_SmallestFree_l3, lt_ln hi, inb_n hi, gt_n hi, hw, cond_true, need_true, show decide ((-1 : Int) < 0) = true from rfl]
          cases decide (l[i].Thing = 0) <;> cases decide (x.Size ≤ l[i].Size) <;> first | exact .inl rfl | exact .inr rfl
        · simp only [spec_SmallestFree_l3, lt_ln hi, inb_n hi, gt_n hi, inb_n hjl, gt_n hjl, hw, cond_true, cond_false, need_true, decide_eq_false (show ¬ (j : Int) < 0 by omega)]
          cases decide (l[i].Thing = 0) <;> cases decide (x.Size ≤ l[i].Size) <;> cases decide (l[i].Size < l[j].Size) <;> first | exact .inl rfl | exact .inr rfl
      rcases hcase with h | h
      · exact ⟨_, h, .inr ⟨i, by omega, hi, rfl⟩⟩
      · refine ⟨_, h, ?_⟩
        rcases hv with h' | ⟨j, hj, hjl, h'⟩
        · exact .inl h'
        · exact .inr ⟨j, by omega, hjl, h'⟩)
    (fun v _ => by simp only [spec_SmallestFree_l3, ge_ln (Nat.le_refl _), cond_false]) (-1) (.inl rfl)
  have hf : impl_freeFor l x.Size = some v := by
    unfold impl_freeFor
    rw [show impl_freeFor_l3 l x.Size l (ln l) = spec_SmallestFree_l3 l x.Size from by funext ⟨k, i⟩; simp only [impl_freeFor_l3, spec_SmallestFree_l3]; cases decide (i < ln l) <;> cases inb l i <;> rfl, hv]; rfl
  have hsf : spec_SmallestFree l x.Size = some (bif decide (v < 0) then 0 else (gt l v).Id) := by
    unfold spec_SmallestFree
    rw [hv]
    rcases hq with rfl | ⟨j, _, hjl, rfl⟩
    · rfl
    · simp only [Option.bind_some, decide_eq_false (show ¬ (j : Int) < 0 by omega), cond_false, inb_n hjl, need_true]
  unfold spec_PutAway impl_PutAway slices_Clone_Slot
  simp only [hrm, need_true, c1, c2, t1, t2, hf, hsf, slotOfV l x.Id hl, slotWith l x.Id hl, Option.bind_some]
  cases c with
  | false => exact ⟨(l, false), rfl, rfl, rfl⟩
  | true =>
    obtain ⟨s1, s2, s3⟩ := c3 rfl
    cases t with
    | false => exact ⟨(l, false), rfl, rfl, rfl⟩
    | true =>
      rcases hq with rfl | ⟨k, _, hk, rfl⟩
      · exact ⟨(l, false), rfl, rfl, rfl⟩
      · have hid : 1 ≤ l[k].Id := s2 _ (List.getElem_mem hk)
        have hsame : (!decide ((bif decide (x.Id = 0) || decide (slotIx l x.Id < 0) then (0 : Int) else (gt l (slotIx l x.Id)).Id) = 0)) = decide (0 ≤ (bif decide (x.Id = 0) then (-1 : Int) else slotIx l x.Id)) := by
          cases decide (x.Id = 0) with
          | true => rfl
          | false =>
            rcases slotIx_any l x.Id with ⟨_, h2⟩ | ⟨j, hj, h2, _, _⟩
            · rw [h2]; rfl
            · rw [h2]
              have := s2 _ (List.getElem_mem hj)
              simp only [Bool.false_or, decide_eq_false (show ¬ (j : Int) < 0 by omega), cond_false, gt_n hj, decide_eq_false (show ¬ l[j].Id = 0 by omega), decide_eq_true (show (0 : Int) ≤ (j : Int) by omega)]; rfl
        simp only [Bool.not_true, cond_false, decide_eq_false (show ¬ (k : Int) < 0 by omega), gt_n hk, inb_n hk, need_true, decide_eq_false (show ¬ l[k].Id = 0 by omega), Int.toNat_natCast, Option.bind_some, hsame]
        cases decide (0 ≤ (bif decide (x.Id = 0) then (-1 : Int) else slotIx l x.Id)) with
        | true => exact ⟨(l, false), rfl, rfl, rfl⟩
        | false =>
          have hr := run_traj (step := spec_PutAway_l6 x l[k].Id) (fun i => (if i ≤ k then l else l.set k ⟨l[k].Id, l[k].Size, x.Id⟩, (i : Int))) (r := l.set k ⟨l[k].Id, l[k].Size, x.Id⟩) l.length (fun i hi => by
              have hw := w64_n (show (i : Int) < 9223372036854775807 by omega)
              by_cases hik : i < k
              · have hne : ¬ l[i].Id = l[k].Id := fun e => by have := slots_uniq l s3 i k hi hk e; omega
                simp only [spec_PutAway_l6, if_pos (show i ≤ k by omega), if_pos (show i + 1 ≤ k by omega), lt_ln hi, inb_n hi, gt_n hi, hw, decide_eq_false hne, cond_true, cond_false, need_true]
              · by_cases hek : i = k
                · subst hek
                  simp only [spec_PutAway_l6, if_pos (Nat.le_refl i), if_neg (show ¬ i + 1 ≤ i by omega), lt_ln hi, inb_n hi, gt_n hi, hw, decide_true, cond_true, need_true, Int.toNat_natCast]
                · have hne : ¬ l[i].Id = l[k].Id := fun e => by have := slots_uniq l s3 i k hi hk e; omega
                  have hi' : i < (l.set k ⟨l[k].Id, l[k].Size, x.Id⟩).length := by rw [List.length_set]; exact hi
                  have hg : gt (l.set k ⟨l[k].Id, l[k].Size, x.Id⟩) (i : Int) = l[i] := by rw [gt_set l k _ i hi, if_neg hek, gt_n hi]
                  simp only [spec_PutAway_l6, if_neg (show ¬ i ≤ k by omega), if_neg (show ¬ i + 1 ≤ k by omega), lt_ln hi', inb_n hi', hg, hw, decide_eq_false hne, cond_true, cond_false, need_true])
            (by
              simp only [spec_PutAway_l6, if_neg (show ¬ l.length ≤ k by omega)]
              rw [show decide ((l.length : Int) < ln (l.set k ⟨l[k].Id, l[k].Size, x.Id⟩)) = false from decide_eq_false (by rw [ln_eq, List.length_set]; omega)]
              rfl)
          simp only [cond_false, show run (spec_PutAway_l6 x l[k].Id) (l, 0) = some (l.set k ⟨l[k].Id, l[k].Size, x.Id⟩) from hr, Option.bind_some]
          exact ⟨_, rfl, rfl, List.length_set⟩
theorem stepFind (h : House) (f : Find) (m : List Mark) (s : Int) (hm : sm_House h) (hk : m.length ≤ 1048576) : ∃ r, spec_StepFind h f m s = some r ∧ impl_StepFind h f m s = some r ∧ sm_House r.1 := by
  have hm7 := hm
  obtain ⟨m1, m2, m3, m4, m5, m6, m7⟩ := hm7
  obtain ⟨a, a1, a2, a3⟩ := putFind h.Finds f m1
  obtain ⟨b, b1, b2, b3⟩ := putSecret h.Secrets ⟨f.Thing.Id, m, s⟩ m2 hk
  obtain ⟨c, c1, c2, c3⟩ := putAway h.Slots f.Thing m3
  obtain ⟨d, d1, d2, d3⟩ := addHand h.Chain ⟨f.Thing.Id, 2, h.No, h.Now, 0⟩ m6
  have w : sm_House ⟨h.No, a.1, b.1, c.1, h.Claims, h.Trials, d.1, h.Book, h.Now⟩ := ⟨a3, b3, by show c.1.length ≤ _; omega, m4, m5, d3, m7⟩
  refine ⟨stepR h ⟨h.No, a.1, b.1, c.1, h.Claims, h.Trials, d.1, h.Book, h.Now⟩ (a.2 && (b.2 && (c.2 && d.2))), ?_, ?_, stepR_sm _ _ _ hm w⟩
  · unfold spec_StepFind
    simp only [l33Copy h hm, a1, b1, c1, d1, l34Done h _ _ hm w, Option.bind_some]
    cases a.2 <;> cases b.2 <;> cases c.2 <;> rfl
  · unfold impl_StepFind
    simp only [cloneHouse h hm, a2, b2, c2, d2, stepped h _ _ hm w (show [a.2, b.2, c.2, d.2].length ≤ 1048576 by simp), Option.bind_some, List.all_cons, List.all_nil, Bool.and_true, id_eq]
end Go.Proofs.YtcdffihcfeajfaaGreat
