/- Plain laws of the typed functions. No condition. -/
import Derived.Test.YtkbilciipmijjaaGreatDoorPz2
import Derived.Test.YtkbilciipmijjaaGreatDoorPz1
import Derived.Test.YtkbilciipmijjaaGreatDoorFn
import Derived.Test.YtkbilciipmijjaaGreatDoorPl
import Derived.Test.YtkbilciipmijjaaGreatDoorFam
/- A list with one more in its place. The program's answers are the reference's. No condition but the length. -/
namespace Go.Proofs.YtkbilciipmijjaaGreatDoor
open Go
set_option linter.unusedVariables false
set_option linter.unusedSimpArgs false
theorem run_pos {n : Nat} (p : Nat → Bool) {step : Int → Option (Int ⊕ Int)} (h1 : ∀ i, i < n → step (i : Int) = some (bif p i then .inl ((i + 1 : Nat) : Int) else .inr (i : Int))) (h2 : step (n : Int) = some (.inr (n : Int))) : ∃ k : Nat, k ≤ n ∧ run step 0 = some (k : Int) := by
  have key : ∀ (m i : Nat), i + m = n → ∃ k : Nat, k ≤ n ∧ run step (i : Int) = some (k : Int) := by
    intro m
    induction m with
    | zero =>
      intro i hi
      have : i = n := by omega
      subst this
      exact ⟨i, Nat.le_refl _, by rw [run_eq, h2]; rfl⟩
    | succ m ih =>
      intro i hi
      cases hp : p i with
      | false => exact ⟨i, by omega, by rw [run_eq, h1 i (by omega), hp]; rfl⟩
      | true =>
        obtain ⟨k, k1, k2⟩ := ih (i + 1) (by omega)
        exact ⟨k, k1, by rw [run_eq, h1 i (by omega), hp]; exact k2⟩
  exact key n 0 (by omega)
theorem cut_drop {α : Type} (l : List α) (k : Nat) : cut l (k : Int) (ln l) = l.drop k := by
  unfold cut ln
  simp
theorem slB_end {k n : Nat} (h : k ≤ n) : slB (k : Int) (n : Int) (n : Int) = true := by unfold slB; simp; omega
theorem ins_cut {α : Type} (l : List α) (k : Nat) (x : α) : (cut l 0 (k : Int) ++ [x]) ++ cut l (k : Int) (ln l) = insL l (k : Int) [x] := by
  rw [cut_take, cut_drop]; simp [insL]
theorem ins_len {α : Type} (l : List α) (k : Nat) (hk : k ≤ l.length) (x : α) : (insL l (k : Int) [x]).length = l.length + 1 := by
  simp [insL]; omega
theorem insB_ok {α : Type} (l : List α) (k : Nat) (hk : k ≤ l.length) (x : α) (b : Nat) (hl : l.length ≤ 1048576) (hb : b ≤ 1024) : insB l (k : Int) [x] b = true := by
  unfold insB
  have : (l.length + 1) * b ≤ 1048577 * 1024 := Nat.mul_le_mul (by omega) hb
  simp; omega
theorem ins_at {α : Type} (l : List α) (k : Nat) (hk : k ≤ l.length) (x : α) : (insL l (k : Int) [x])[k]? = some x := by
  simp [insL, List.getElem?_append, Nat.min_eq_left hk]
theorem ins_old {α : Type} (l : List α) (k : Nat) (hk : k ≤ l.length) (x : α) (j : Nat) (hj : j < l.length) : (insL l (k : Int) [x])[if j < k then j else j + 1]? = some l[j] := by
  by_cases h : j < k
  · rw [if_pos h]; simp [insL, List.getElem?_append, Nat.min_eq_left hk, h]
  · rw [if_neg h]
    simp only [insL, Int.toNat_natCast, List.singleton_append]
    rw [List.getElem?_append_right (by simp; omega)]
    simp only [List.length_take, Nat.min_eq_left hk]
    rw [show j + 1 - k = (j - k) + 1 by omega, List.getElem?_cons_succ, List.getElem?_drop, show k + (j - k) = j by omega, List.getElem?_eq_getElem hj]
/-- In a list that goes up no key is twice. -/
theorem ins_dup {α : Type} [Inhabited α] (key : α → Int) (l : List α) (k : Nat) (hk : k ≤ l.length) (x : α) (up : ∀ i (hi : i < (insL l (k : Int) [x]).length) (h0 : 0 < i), key ((insL l (k : Int) [x])[i - 1]'(by omega)) < key (insL l (k : Int) [x])[i]) (j : Nat) (hj : j < l.length) (he : key l[j] = key x) : False := by
  have hlen := ins_len l k hk x
  have hu := up_lt (n := (insL l (k : Int) [x]).length) (fun i => key (gt (insL l (k : Int) [x]) (i : Int))) (fun i h1 h2 => by
    show key (gt (insL l (k : Int) [x]) ((i - 1 : Nat) : Int)) < key (gt (insL l (k : Int) [x]) (i : Int))
    rw [gt_n h1, gt_n (show i - 1 < (insL l (k : Int) [x]).length by omega)]; exact up i h1 h2)
  have g1 : gt (insL l (k : Int) [x]) (k : Int) = x := by
    have hlt : k < (insL l (k : Int) [x]).length := by omega
    rw [gt_n hlt]
    have := ins_at l k hk x
    rw [List.getElem?_eq_getElem hlt] at this
    exact Option.some.inj this
  have hidx : (if j < k then j else j + 1) < (insL l (k : Int) [x]).length := by split <;> omega
  have g2 : gt (insL l (k : Int) [x]) ((if j < k then j else j + 1 : Nat) : Int) = l[j] := by
    rw [gt_n hidx]
    have := ins_old l k hk x j hj
    rw [List.getElem?_eq_getElem hidx] at this
    exact Option.some.inj this
  by_cases h : j < k
  · have := hu k (if j < k then j else j + 1) (by rw [if_pos h]; exact h) (by omega)
    simp only [g1, g2] at this; omega
  · have := hu (if j < k then j else j + 1) k (by rw [if_neg h]; omega) hidx
    simp only [g1, g2] at this; omega
end Go.Proofs.YtkbilciipmijjaaGreatDoor

/- A find put in its place. The program's answers are the reference's. No condition but the length. -/
namespace Go.Proofs.YtkbilciipmijjaaGreatDoor
open Go
set_option linter.unusedVariables false
set_option linter.unusedSimpArgs false
theorem findIx_has (l : List Find) (id : Int) : findIx l id = -1 ∨ ∃ k : Nat, ∃ hk : k < l.length, findIx l id = (k : Int) ∧ l[k].Thing.Id = id := by
  unfold findIx
  cases hf : l.findIdx? (fun x => decide (x.Thing.Id = id)) with
  | none => exact .inl rfl
  | some i =>
    obtain ⟨hi, hp⟩ := find_at hf
    exact .inr ⟨i, hi, rfl, by simpa using hp⟩
theorem putFind (l : List Find) (f : Find) (hl : l.length ≤ 1048576) : ∃ r, spec_PutFind l f = some r ∧ impl_PutFind l f = some r ∧ r.1.length ≤ 1048576 := by
  obtain ⟨k, hk, hr⟩ := run_pos (n := l.length) (fun i => decide ((gt l (i : Int)).Thing.Id < f.Thing.Id)) (step := spec_PutFind_l2 l f)
    (fun i hi => by
      simp only [spec_PutFind_l2, lt_ln hi, inb_n hi, w64_n (show (i : Int) < 9223372036854775807 by omega), cond_true, need_true, Option.bind_some]
      cases decide ((gt l (i : Int)).Thing.Id < f.Thing.Id) <;> rfl)
    (by simp only [spec_PutFind_l2, ge_ln (Nat.le_refl _), cond_false]; rfl)
  have hr2 : run (impl_PutFind_l5 l f l) 0 = some (k : Int) := hr
  have hlen := ins_len l k hk f
  obtain ⟨b, b1, b2, b3⟩ := areFindsL (insL l (k : Int) [f]) (by omega)
  have hrm : rm (0 + l.length) 64 = true := rm_ok (by omega) (by omega)
  have hrm1 : rm (0 + (cut l 0 (k : Int)).length) 64 = true := rm_ok (by rw [cut_take, List.length_take]; omega) (by omega)
  have hrm2 : rm ((cut l 0 (k : Int)).length + 1) 64 = true := rm_ok (by rw [cut_take, List.length_take]; omega) (by omega)
  have hrm3 : rm ((cut l 0 (k : Int)).length + 1 + (cut l (k : Int) (ln l)).length) 64 = true := rm_ok (by rw [cut_take, cut_drop, List.length_take, List.length_drop]; omega) (by omega)
  have hs : spec_PutFind l f = some (bif b then (insL l (k : Int) [f], true) else (l, false)) := by
    unfold spec_PutFind
    simp only [hr, ln_eq, slB_ok hk, slB_end hk, Option.bind_some, need_true]
    rw [← ln_eq]
    simp only [hrm1, hrm2, hrm3, hrm, ins_cut, b1, need_true, Option.bind_some]
    cases b <;> rfl
  refine ⟨_, hs, ?_, ?_⟩
  · unfold impl_PutFind slices_Clone_Find
    simp only [hrm, need_true, Option.bind_some, (findThing l f.Thing.Id hl).2, hr2, insB_ok l k hk f 64 hl (by omega), b2]
    rcases findIx_has l f.Thing.Id with h | ⟨j, hj, h, hid⟩
    · rw [h]; cases b <;> rfl
    · rw [h, decide_eq_true (show (0 : Int) ≤ (j : Int) by omega)]
      cases b with
      | false => rfl
      | true => exact absurd (ins_dup (fun x : Find => x.Thing.Id) l k hk f (b3 rfl).2.2 j hj hid) id
  · cases b with
    | false => exact hl
    | true => have := (b3 rfl).1; show (insL l (k : Int) [f]).length ≤ _; omega
/-- Secrets by thing. -/
theorem secretOf (l : List Secret) (t : Int) (hl : l.length ≤ 1048576) : impl_secretOf l t = some (-1) ∨ ∃ k : Nat, ∃ hk : k < l.length, impl_secretOf l t = some (k : Int) ∧ l[k].Thing = t := by
  have hi := run_find l (fun x => decide (x.Thing = t)) (fun i => (i : Int)) (step := slices_IndexFunc_Secret_cimpl_secretOf_1_l2 l t (ln l))
    (fun i hi => by
      simp only [slices_IndexFunc_Secret_cimpl_secretOf_1_l2, impl_secretOf_1, Option.bind_some, lt_ln hi, inb_n hi, gt_n hi, w64_n (show (i : Int) < 9223372036854775807 by omega), cond_true, need_true]
      cases decide (l[i].Thing = t) <;> rfl)
    (by simp only [slices_IndexFunc_Secret_cimpl_secretOf_1_l2, ge_ln (Nat.le_refl _), cond_false])
  unfold impl_secretOf slices_IndexFunc_Secret_cimpl_secretOf_1
  rw [hi]
  cases hf : l.findIdx? (fun x => decide (x.Thing = t)) with
  | none => exact .inl rfl
  | some i =>
    obtain ⟨hi', hp⟩ := find_at hf
    exact .inr ⟨i, hi', rfl, by simpa using hp⟩
theorem smL_take {α : Type} {sm : α → Prop} {l : List α} (h : smL sm l) (k : Nat) : smL sm (l.take k) := ⟨by have := h.1; rw [List.length_take]; omega, fun x hx => h.2 x (List.mem_of_mem_take hx)⟩
theorem smL_drop {α : Type} {sm : α → Prop} {l : List α} (h : smL sm l) (k : Nat) : smL sm (l.drop k) := ⟨by have := h.1; rw [List.length_drop]; omega, fun x hx => h.2 x (List.mem_of_mem_drop hx)⟩
theorem putSecret (l : List Secret) (x : Secret) (hm : smL sm_Secret l) (hx : x.Marks.length ≤ 1048576) : ∃ r, spec_PutSecret l x = some r ∧ impl_PutSecret l x = some r ∧ smL sm_Secret r.1 := by
  have hl := hm.1
  obtain ⟨k, hk, hr⟩ := run_pos (n := l.length) (fun i => decide ((gt l (i : Int)).Thing < x.Thing)) (step := spec_PutSecret_l2 l x)
    (fun i hi => by
      simp only [spec_PutSecret_l2, lt_ln hi, inb_n hi, w64_n (show (i : Int) < 9223372036854775807 by omega), cond_true, need_true, Option.bind_some]
      cases decide ((gt l (i : Int)).Thing < x.Thing) <;> rfl)
    (by simp only [spec_PutSecret_l2, ge_ln (Nat.le_refl _), cond_false]; rfl)
  have hr2 : run (impl_PutSecret_l5 l x l) 0 = some (k : Int) := hr
  have hlen := ins_len l k hk x
  have hmem : ∀ y ∈ insL l (k : Int) [x], sm_Secret y := by
    intro y hy
    simp only [insL, Int.toNat_natCast, List.singleton_append, List.mem_append, List.mem_cons] at hy
    rcases hy with h | h | h
    · exact hm.2 y (List.mem_of_mem_take h)
    · subst h; exact hx
    · exact hm.2 y (List.mem_of_mem_drop h)
  obtain ⟨b, b1, b2, b3⟩ := areSecretsL (insL l (k : Int) [x]) (by omega) hmem
  have hrm1 : rm ((cut l 0 (k : Int)).length + [x].length) 40 = true := rm_ok (by rw [cut_take, List.length_take]; simp; omega) (by omega)
  have hrm3 : rm ((cut l 0 (k : Int)).length + [x].length + (cut l (k : Int) (ln l)).length) 40 = true := rm_ok (by rw [cut_take, cut_drop, List.length_take, List.length_drop]; simp; omega) (by omega)
  have c1 : spec_l31Copy (cut l 0 (k : Int)) = some (cut l 0 (k : Int)) := by rw [cut_take]; exact l31Copy _ (smL_take hm k)
  have c2 : spec_l31Copy (cut l (k : Int) (ln l)) = some (cut l (k : Int) (ln l)) := by rw [cut_drop]; exact l31Copy _ (smL_drop hm k)
  have c3 : spec_l31Copy [x] = some [x] := l31Copy _ ⟨by simp, fun y hy => by simp at hy; subst hy; exact hx⟩
  have hs : spec_PutSecret l x = some (bif b then (insL l (k : Int) [x], true) else (l, false)) := by
    unfold spec_PutSecret
    simp only [hr, Option.bind_some]
    rw [show slB 0 (k : Int) (ln l) = true from slB_ok hk, show slB (k : Int) (ln l) (ln l) = true from slB_end hk]
    simp only [need_true, c1, c2, c3, hrm1, hrm3, ins_cut, b1, l31Copy l hm, Option.bind_some]
    cases b <;> rfl
  refine ⟨_, hs, ?_, ?_⟩
  · unfold impl_PutSecret slices_Clone_Mark
    simp only [cloneSecrets l hm, Option.bind_some, hr2, rm_ok (show 0 + x.Marks.length ≤ 2000000 by omega) (show 16 ≤ 1024 by omega), need_true, show (⟨x.Thing, x.Marks, x.Salt⟩ : Secret) = x from rfl, insB_ok l k hk x 40 hl (by omega), b2]
    rcases secretOf l x.Thing hl with h | ⟨j, hj, h, hid⟩
    · rw [h]; cases b <;> rfl
    · rw [h]
      simp only [Option.bind_some, decide_eq_true (show (0 : Int) ≤ (j : Int) by omega)]
      cases b with
      | false => rfl
      | true => exact absurd (ins_dup (fun x : Secret => x.Thing) l k hk x (b3 rfl).2 j hj hid) id
  · cases b with
    | false => exact hm
    | true => exact ⟨by have := (b3 rfl).1; show (insL l (k : Int) [x]).length ≤ _; omega, hmem⟩
theorem putAway (l : List Slot) (x : Thing) (hl : l.length ≤ 1048576) : ∃ r, spec_PutAway l x = some r ∧ impl_PutAway l x = some r ∧ r.1.length = l.length := by
  obtain ⟨c, c1, c2, c3⟩ := areSlotsU l hl
  obtain ⟨t, t1, t2, _⟩ := isThingB x
  have hrm : rm (0 + l.length) 24 = true := rm_ok (by omega) (by omega)
  obtain ⟨v, hv, hq⟩ := run_inv (n := l.length) (step := spec_SmallestFree_l3 l x.Size) (fin := fun v => v) (fun i v => v = -1 ∨ ∃ j : Nat, j < i ∧ j < l.length ∧ v = (j : Int))
    (fun i v hi hv => by
      have hw := w64_n (show (i : Int) < 9223372036854775807 by omega)
      have hcase : spec_SmallestFree_l3 l x.Size (v, (i : Int)) = some (.inl ((i : Int), ((i + 1 : Nat) : Int))) ∨ spec_SmallestFree_l3 l x.Size (v, (i : Int)) = some (.inl (v, ((i + 1 : Nat) : Int))) := by
        rcases hv with rfl | ⟨j, hj, hjl, rfl⟩
        · simp only [spec_SmallestFree_l3, lt_ln hi, inb_n hi, gt_n hi, hw, cond_true, need_true, show decide ((-1 : Int) < 0) = true from rfl]
          cases decide (l[i].Thing = 0) <;> cases decide (x.Size ≤ l[i].Size) <;> first | exact .inl rfl | exact .inr rfl
        · simp only [spec_SmallestFree_l3, lt_ln hi, inb_n hi, gt_n hi, inb_n hjl, gt_n hjl, hw, cond_true, cond_false, need_true, decide_eq_false (show ¬ (j : Int) < 0 by omega)]
          cases decide (l[i].Thing = 0) <;> cases decide (x.Size ≤ l[i].Size) <;> cases decide (l[i].Size < l[j].Size) <;> first | exact .inl rfl | exact .inr rfl
      rcases hcase with h | h
      · exact ⟨_, h, .inr ⟨i, by omega, hi, rfl⟩⟩
      · refine ⟨_, h, ?_⟩
        rcases hv with h' | ⟨j, hj, hjl, h'⟩
        · exact .inl h'
        · exact .inr ⟨j, by omega, hjl, h'⟩)
    (fun v _ => by simp only [spec_SmallestFree_l3, ge_ln (Nat.le_refl _), cond_false]) (-1) (.inl rfl)
  have hf : impl_freeFor l x.Size = some v := by
    unfold impl_freeFor
    rw [show impl_freeFor_l3 l x.Size l (ln l) = spec_SmallestFree_l3 l x.Size from by funext ⟨k, i⟩; simp only [impl_freeFor_l3, spec_SmallestFree_l3]; cases decide (i < ln l) <;> cases inb l i <;> rfl, hv]; rfl
  have hsf : spec_SmallestFree l x.Size = some (bif decide (v < 0) then 0 else (gt l v).Id) := by
    unfold spec_SmallestFree
    rw [hv]
    rcases hq with rfl | ⟨j, _, hjl, rfl⟩
    · rfl
    · simp only [Option.bind_some, decide_eq_false (show ¬ (j : Int) < 0 by omega), cond_false, inb_n hjl, need_true]
  unfold spec_PutAway impl_PutAway slices_Clone_Slot
  simp only [hrm, need_true, c1, c2, t1, t2, hf, hsf, slotOfV l x.Id hl, slotWith l x.Id hl, Option.bind_some]
  cases c with
  | false => exact ⟨(l, false), rfl, rfl, rfl⟩
  | true =>
    obtain ⟨s1, s2, s3⟩ := c3 rfl
    cases t with
    | false => exact ⟨(l, false), rfl, rfl, rfl⟩
    | true =>
      rcases hq with rfl | ⟨k, _, hk, rfl⟩
      · exact ⟨(l, false), rfl, rfl, rfl⟩
      · have hid : 1 ≤ l[k].Id := s2 _ (List.getElem_mem hk)
        have hsame : (!decide ((bif decide (x.Id = 0) || decide (slotIx l x.Id < 0) then (0 : Int) else (gt l (slotIx l x.Id)).Id) = 0)) = decide (0 ≤ (bif decide (x.Id = 0) then (-1 : Int) else slotIx l x.Id)) := by
          cases decide (x.Id = 0) with
          | true => rfl
          | false =>
            rcases slotIx_any l x.Id with ⟨_, h2⟩ | ⟨j, hj, h2, _, _⟩
            · rw [h2]; rfl
            · rw [h2]
              have := s2 _ (List.getElem_mem hj)
              simp only [Bool.false_or, decide_eq_false (show ¬ (j : Int) < 0 by omega), cond_false, gt_n hj, decide_eq_false (show ¬ l[j].Id = 0 by omega), decide_eq_true (show (0 : Int) ≤ (j : Int) by omega)]; rfl
        simp only [Bool.not_true, cond_false, decide_eq_false (show ¬ (k : Int) < 0 by omega), gt_n hk, inb_n hk, need_true, decide_eq_false (show ¬ l[k].Id = 0 by omega), Int.toNat_natCast, Option.bind_some, hsame]
        cases decide (0 ≤ (bif decide (x.Id = 0) then (-1 : Int) else slotIx l x.Id)) with
        | true => exact ⟨(l, false), rfl, rfl, rfl⟩
        | false =>
          have hr := run_traj (step := spec_PutAway_l6 x l[k].Id) (fun i => (if i ≤ k then l else l.set k ⟨l[k].Id, l[k].Size, x.Id⟩, (i : Int))) (r := l.set k ⟨l[k].Id, l[k].Size, x.Id⟩) l.length (fun i hi => by
              have hw := w64_n (show (i : Int) < 9223372036854775807 by omega)
              by_cases hik : i < k
              · have hne : ¬ l[i].Id = l[k].Id := fun e => by have := slots_uniq l s3 i k hi hk e; omega
                simp only [spec_PutAway_l6, if_pos (show i ≤ k by omega), if_pos (show i + 1 ≤ k by omega), lt_ln hi, inb_n hi, gt_n hi, hw, decide_eq_false hne, cond_true, cond_false, need_true]
              · by_cases hek : i = k
                · subst hek
                  simp only [spec_PutAway_l6, if_pos (Nat.le_refl i), if_neg (show ¬ i + 1 ≤ i by omega), lt_ln hi, inb_n hi, gt_n hi, hw, decide_true, cond_true, need_true, Int.toNat_natCast]
                · have hne : ¬ l[i].Id = l[k].Id := fun e => by have := slots_uniq l s3 i k hi hk e; omega
                  have hi' : i < (l.set k ⟨l[k].Id, l[k].Size, x.Id⟩).length := by rw [List.length_set]; exact hi
                  have hg : gt (l.set k ⟨l[k].Id, l[k].Size, x.Id⟩) (i : Int) = l[i] := by rw [gt_set l k _ i hi, if_neg hek, gt_n hi]
                  simp only [spec_PutAway_l6, if_neg (show ¬ i ≤ k by omega), if_neg (show ¬ i + 1 ≤ k by omega), lt_ln hi', inb_n hi', hg, hw, decide_eq_false hne, cond_true, cond_false, need_true])
            (by
              simp only [spec_PutAway_l6, if_neg (show ¬ l.length ≤ k by omega)]
              rw [show decide ((l.length : Int) < ln (l.set k ⟨l[k].Id, l[k].Size, x.Id⟩)) = false from decide_eq_false (by rw [ln_eq, List.length_set]; omega)]
              rfl)
          simp only [cond_false, show run (spec_PutAway_l6 x l[k].Id) (l, 0) = some (l.set k ⟨l[k].Id, l[k].Size, x.Id⟩) from hr, Option.bind_some]
          exact ⟨_, rfl, rfl, List.length_set⟩
theorem stepFind (h : House) (f : Find) (m : List Mark) (s : Int) (hm : sm_House h) (hk : m.length ≤ 1048576) : ∃ r, spec_StepFind h f m s = some r ∧ impl_StepFind h f m s = some r ∧ sm_House r.1 := by
  have hm7 := hm
  obtain ⟨m1, m2, m3, m4, m5, m6, m7⟩ := hm7
  obtain ⟨a, a1, a2, a3⟩ := putFind h.Finds f m1
  obtain ⟨b, b1, b2, b3⟩ := putSecret h.Secrets ⟨f.Thing.Id, m, s⟩ m2 hk
  obtain ⟨c, c1, c2, c3⟩ := putAway h.Slots f.Thing m3
  obtain ⟨d, d1, d2, d3⟩ := addHand h.Chain ⟨f.Thing.Id, 2, h.No, h.Now, 0⟩ m6
  have w : sm_House ⟨h.No, a.1, b.1, c.1, h.Claims, h.Trials, d.1, h.Book, h.Now⟩ := ⟨a3, b3, by show c.1.length ≤ _; omega, m4, m5, d3, m7⟩
  refine ⟨stepR h ⟨h.No, a.1, b.1, c.1, h.Claims, h.Trials, d.1, h.Book, h.Now⟩ (a.2 && (b.2 && (c.2 && d.2))), ?_, ?_, stepR_sm _ _ _ hm w⟩
  · unfold spec_StepFind
    simp only [l33Copy h hm, a1, b1, c1, d1, l34Done h _ _ hm w, Option.bind_some]
    cases a.2 <;> cases b.2 <;> cases c.2 <;> rfl
  · unfold impl_StepFind
    simp only [cloneHouse h hm, a2, b2, c2, d2, stepped h _ _ hm w (show [a.2, b.2, c.2, d.2].length ≤ 1048576 by simp), Option.bind_some, List.all_cons, List.all_nil, Bool.and_true, id_eq]
end Go.Proofs.YtkbilciipmijjaaGreatDoor

/- A claim brought. The program's answers are the reference's. No condition but the length. -/
namespace Go.Proofs.YtkbilciipmijjaaGreatDoor
open Go
set_option linter.unusedVariables false
set_option linter.unusedSimpArgs false
/-- Claims in order go up. -/
theorem claims_up (l : List Claim) (hl : l.length ≤ 2097152) (h : spec_AreClaims l = some true) : ∀ i (hi : i < l.length) (h0 : 0 < i), (l[i - 1]'(by omega)).Id < l[i].Id := by
  intro i hi h0
  have ho := (claims_len l h hl).2 i hi
  unfold claimOk at ho
  simp only [Bool.and_eq_true, Bool.or_eq_true, gt_n hi, gt_n (show i - 1 < l.length by omega)] at ho
  have := ho.2.2.2.2.2.1
  simp at this
  omega
/-- Where a thing stands in a list that goes up once it is in. -/
theorem ins_up {α : Type} [Inhabited α] (key : α → Int) (l : List α) (k : Nat) (hk : k ≤ l.length) (x : α) (up : ∀ i (hi : i < (insL l (k : Int) [x]).length) (h0 : 0 < i), key ((insL l (k : Int) [x])[i - 1]'(by omega)) < key (insL l (k : Int) [x])[i]) (j : Nat) (hj : j < l.length) : if j < k then key l[j] < key x else key x < key l[j] := by
  have hlen := ins_len l k hk x
  have hu := up_lt (n := (insL l (k : Int) [x]).length) (fun i => key (gt (insL l (k : Int) [x]) (i : Int))) (fun i h1 h2 => by
    show key (gt (insL l (k : Int) [x]) ((i - 1 : Nat) : Int)) < key (gt (insL l (k : Int) [x]) (i : Int))
    rw [gt_n h1, gt_n (show i - 1 < (insL l (k : Int) [x]).length by omega)]; exact up i h1 h2)
  have g1 : gt (insL l (k : Int) [x]) (k : Int) = x := by
    have hlt : k < (insL l (k : Int) [x]).length := by omega
    rw [gt_n hlt]
    have := ins_at l k hk x
    rw [List.getElem?_eq_getElem hlt] at this
    exact Option.some.inj this
  have hidx : (if j < k then j else j + 1) < (insL l (k : Int) [x]).length := by split <;> omega
  have g2 : gt (insL l (k : Int) [x]) ((if j < k then j else j + 1 : Nat) : Int) = l[j] := by
    rw [gt_n hidx]
    have := ins_old l k hk x j hj
    rw [List.getElem?_eq_getElem hidx] at this
    exact Option.some.inj this
  by_cases h : j < k
  · have := hu k (if j < k then j else j + 1) (by rw [if_pos h]; exact h) (by omega)
    simp only [g1, g2] at this; rw [if_pos h]; exact this
  · have := hu (if j < k then j else j + 1) k (by rw [if_neg h]; omega) hidx
    simp only [g1, g2] at this; rw [if_neg h]; exact this
/-- Two places where a thing may be put: if at one of them the list goes up, they are one. -/
theorem ins_one {α : Type} [Inhabited α] (key : α → Int) (l : List α) (k1 k2 : Nat) (h1 : k1 ≤ l.length) (h2 : k2 ≤ l.length) (x : α)
    (a1 : ∀ j (hj : j < l.length), k1 ≤ j → ¬ key l[j] < key x) (a2 : ∀ (h : 0 < k1), key (l[k1 - 1]'(by omega)) < key x)
    (b1 : ∀ j (hj : j < l.length), j < k2 → key l[j] < key x) (b2 : ∀ (h : k2 < l.length), ¬ key l[k2] < key x)
    (up : (∀ i (hi : i < (insL l (k1 : Int) [x]).length) (h0 : 0 < i), key ((insL l (k1 : Int) [x])[i - 1]'(by omega)) < key (insL l (k1 : Int) [x])[i]) ∨ (∀ i (hi : i < (insL l (k2 : Int) [x]).length) (h0 : 0 < i), key ((insL l (k2 : Int) [x])[i - 1]'(by omega)) < key (insL l (k2 : Int) [x])[i])) : k1 = k2 := by
  rcases up with up | up
  · have hj := ins_up key l k1 h1 x up
    by_cases h : k1 < k2
    · exact absurd (b1 k1 (by omega) h) (a1 k1 (by omega) (Nat.le_refl _))
    · by_cases h' : k2 < k1
      · have := hj k2 (by omega)
        rw [if_pos h'] at this
        exact absurd this (b2 (by omega))
      · omega
  · have hj := ins_up key l k2 h2 x up
    by_cases h : k1 < k2
    · exact absurd (b1 k1 (by omega) h) (a1 k1 (by omega) (Nat.le_refl _))
    · by_cases h' : k2 < k1
      · have h3 := hj (k1 - 1) (by omega)
        rw [if_neg (by omega)] at h3
        have h4 := a2 (by omega)
        omega
      · omega
/-- The first place where it fails. -/
theorem run_first {n : Nat} (p : Nat → Bool) {step : Int → Option (Int ⊕ Int)} (h1 : ∀ i, i < n → step (i : Int) = some (bif p i then .inl ((i + 1 : Nat) : Int) else .inr (i : Int))) (h2 : step (n : Int) = some (.inr (n : Int))) : ∃ k : Nat, k ≤ n ∧ run step 0 = some (k : Int) ∧ (∀ j, j < k → p j = true) ∧ (k < n → p k = false) := by
  have key : ∀ (m i : Nat), i + m = n → (∀ j, j < i → p j = true) → ∃ k : Nat, k ≤ n ∧ run step (i : Int) = some (k : Int) ∧ (∀ j, j < k → p j = true) ∧ (k < n → p k = false) := by
    intro m
    induction m with
    | zero =>
      intro i hi hp
      have : i = n := by omega
      subst this
      exact ⟨i, Nat.le_refl _, by rw [run_eq, h2]; rfl, hp, fun h => by omega⟩
    | succ m ih =>
      intro i hi hp'
      cases hp : p i with
      | false => exact ⟨i, by omega, by rw [run_eq, h1 i (by omega), hp]; rfl, hp', fun _ => hp⟩
      | true =>
        obtain ⟨k, k1, k2, k3⟩ := ih (i + 1) (by omega) (fun j hj => by
          by_cases hji : j = i
          · subst hji; exact hp
          · exact hp' j (by omega))
        exact ⟨k, k1, by rw [run_eq, h1 i (by omega), hp]; exact k2, k3⟩
  exact key n 0 (by omega) (fun j hj => by omega)
/-- One past the last claim before it. -/
def afterP (l : List Claim) (id : Int) : Nat → Nat
  | 0 => 0
  | n + 1 => bif decide ((gt l (n : Int)).Id < id) then n + 1 else afterP l id n
theorem afterP_le (l : List Claim) (id : Int) : ∀ n, afterP l id n ≤ n
  | 0 => Nat.le_refl _
  | n + 1 => by
    have := afterP_le l id n
    unfold afterP
    cases decide ((gt l (n : Int)).Id < id) <;> simp <;> omega
theorem afterP_hi (l : List Claim) (id : Int) : ∀ n j, afterP l id n ≤ j → j < n → ¬ (gt l (j : Int)).Id < id
  | 0, j, _, h => by omega
  | n + 1, j, h1, h2 => by
    unfold afterP at h1
    cases hd : decide ((gt l (n : Int)).Id < id) with
    | true => rw [hd] at h1; simp at h1; omega
    | false =>
      rw [hd] at h1
      by_cases hj : j = n
      · subst hj; exact of_decide_eq_false hd
      · exact afterP_hi l id n j h1 (by omega)
theorem afterP_lo (l : List Claim) (id : Int) : ∀ n, 0 < afterP l id n → (gt l ((afterP l id n - 1 : Nat) : Int)).Id < id
  | 0, h => by simp [afterP] at h
  | n + 1, h => by
    unfold afterP at h ⊢
    cases hd : decide ((gt l (n : Int)).Id < id) with
    | true => simp only [cond_true, Nat.add_sub_cancel]; exact of_decide_eq_true hd
    | false => rw [hd] at h; exact afterP_lo l id n h
theorem addClaim (l : List Claim) (x : Claim) (hl : l.length ≤ 1048576) : ∃ r, spec_AddClaim l x = some r ∧ impl_AddClaim l x = some r ∧ r.1.length ≤ 1048576 ∧
    (r.2 = true → ∃ k : Nat, k ≤ l.length ∧ r.1 = insL l (k : Int) [x] ∧ claimIx r.1 x.Id = (k : Int) ∧ (∀ j (hj : j < l.length), j < k → l[j].Id < x.Id) ∧ (∀ j (hj : j < l.length), k ≤ j → ¬ l[j].Id < x.Id)) := by
  have hs := run_traj (step := spec_AddClaim_l4 l x) (fun i => (((afterP l x.Id i : Nat) : Int), (!decide (x.State = 0)) || (l.take i).any (fun y => decide (y.Who = x.Who) && decide (y.Thing = x.Thing)), (i : Int)))
    (r := (((afterP l x.Id l.length : Nat) : Int), (!decide (x.State = 0)) || l.any (fun y => decide (y.Who = x.Who) && decide (y.Thing = x.Thing)))) l.length (fun i hi => by
      have hw := w64_n (show (i : Int) < 9223372036854775807 by omega)
      have hany : (l.take (i + 1)).any (fun y => decide (y.Who = x.Who) && decide (y.Thing = x.Thing)) = ((l.take i).any (fun y => decide (y.Who = x.Who) && decide (y.Thing = x.Thing)) || (decide (l[i].Who = x.Who) && decide (l[i].Thing = x.Thing))) := by
        rw [List.take_succ_eq_append_getElem hi, List.any_append]; simp
      have ha : afterP l x.Id (i + 1) = bif decide (l[i].Id < x.Id) then i + 1 else afterP l x.Id i := by
        rw [afterP, gt_n hi]
      simp only [spec_AddClaim_l4, lt_ln hi, inb_n hi, gt_n hi, hw, cond_true, need_true, hany, ha]
      generalize (l.take i).any (fun y => decide (y.Who = x.Who) && decide (y.Thing = x.Thing)) = q
      cases decide (x.State = 0) <;> cases q <;> cases (decide (l[i].Who = x.Who) && decide (l[i].Thing = x.Thing)) <;> cases decide (l[i].Id < x.Id) <;> rfl)
    (by simp only [spec_AddClaim_l4, ge_ln (Nat.le_refl _), cond_false, List.take_length])
  have hs' : run (spec_AddClaim_l4 l x) (0, (!decide (x.State = 0)), 0) = some (((afterP l x.Id l.length : Nat) : Int), (!decide (x.State = 0)) || l.any (fun y => decide (y.Who = x.Who) && decide (y.Thing = x.Thing))) := by
    have : ((!decide (x.State = 0)) || (l.take 0).any (fun y => decide (y.Who = x.Who) && decide (y.Thing = x.Thing))) = !decide (x.State = 0) := by simp
    rw [this] at hs; exact hs
  have hk1 := afterP_le l x.Id l.length
  have hhi := afterP_hi l x.Id l.length
  have hlo := afterP_lo l x.Id l.length
  generalize afterP l x.Id l.length = k1 at hs' hk1 hhi hlo
  obtain ⟨k2, hk2, hr, hf1, hf2⟩ := run_first (n := l.length) (fun i => decide ((gt l (i : Int)).Id < x.Id)) (step := impl_AddClaim_l5 l x l)
    (fun i hi => by
      simp only [impl_AddClaim_l5, lt_ln hi, inb_n hi, w64_n (show (i : Int) < 9223372036854775807 by omega), cond_true, need_true, Option.bind_some]
      cases decide ((gt l (i : Int)).Id < x.Id) <;> rfl)
    (by simp only [impl_AddClaim_l5, ge_ln (Nat.le_refl _), cond_false]; rfl)
  have A1 : ∀ j (hj : j < l.length), k1 ≤ j → ¬ l[j].Id < x.Id := fun j hj h => by have := hhi j h hj; rw [gt_n hj] at this; exact this
  have A2 : ∀ (h : 0 < k1), (l[k1 - 1]'(by omega)).Id < x.Id := fun h => by have := hlo h; rw [gt_n (show k1 - 1 < l.length by omega)] at this; exact this
  have B1 : ∀ j (hj : j < l.length), j < k2 → l[j].Id < x.Id := fun j hj h => by have := hf1 j h; simp only [gt_n hj, decide_eq_true_eq] at this; exact this
  have B2 : ∀ (h : k2 < l.length), ¬ l[k2].Id < x.Id := fun h => by have := hf2 h; simp only [gt_n h, decide_eq_false_iff_not] at this; exact this
  have hl1 := ins_len l k1 hk1 x
  have hl2 := ins_len l k2 hk2 x
  obtain ⟨b, b1, b2, _⟩ := areClaimsL (insL l (k1 : Int) [x]) (by omega)
  obtain ⟨c, c1, c2, _⟩ := areClaimsL (insL l (k2 : Int) [x]) (by omega)
  have hone : b = true ∨ c = true → k1 = k2 := fun h => ins_one (fun y : Claim => y.Id) l k1 k2 hk1 hk2 x A1 A2 B1 B2 (by
    rcases h with rfl | rfl
    · exact .inl (claims_up _ (by omega) b1)
    · exact .inr (claims_up _ (by omega) c1))
  have hbc : b = c := by
    cases hb : b with
    | true =>
      have := hone (.inl hb)
      subst this
      rw [b1, hb] at c1; exact Option.some.inj c1
    | false => cases hc : c with
      | false => rfl
      | true =>
        have := hone (.inr hc)
        subst this
        rw [c1, hc] at b1; rw [hb] at b1; cases b1
  have hi := run_find l (fun y => decide (y.Who = x.Who) && decide (y.Thing = x.Thing)) (fun i => (i : Int)) (step := slices_IndexFunc_Claim_cimpl_AddClaim_1_l2 l x (ln l))
    (fun i hi => by
      simp only [slices_IndexFunc_Claim_cimpl_AddClaim_1_l2, impl_AddClaim_1, lt_ln hi, inb_n hi, gt_n hi, w64_n (show (i : Int) < 9223372036854775807 by omega), cond_true, need_true, Option.bind_some]
      cases (decide (l[i].Who = x.Who) && decide (l[i].Thing = x.Thing)) <;> rfl)
    (by simp only [slices_IndexFunc_Claim_cimpl_AddClaim_1_l2, ge_ln (Nat.le_refl _), cond_false])
  have hc : slices_ContainsFunc_Claim_cimpl_AddClaim_1 l x = some (l.any (fun y => decide (y.Who = x.Who) && decide (y.Thing = x.Thing))) := by
    unfold slices_ContainsFunc_Claim_cimpl_AddClaim_1 slices_IndexFunc_Claim_cimpl_AddClaim_1
    rw [hi]
    cases hf : l.findIdx? (fun y => decide (y.Who = x.Who) && decide (y.Thing = x.Thing)) with
    | none =>
      have : l.any (fun y => decide (y.Who = x.Who) && decide (y.Thing = x.Thing)) = false := by
        rw [List.any_eq_false]
        intro y hy
        have := List.findIdx?_eq_none_iff.1 hf y hy
        simpa using this
      rw [this]; rfl
    | some i =>
      obtain ⟨hi', hp⟩ := find_at hf
      rw [List.any_eq_true.2 ⟨_, List.getElem_mem hi', hp⟩]
      simp only [Option.bind_some, evO, decide_eq_true (show (0 : Int) ≤ (i : Int) by omega)]
  have hrm : rm (0 + l.length) 40 = true := rm_ok (by omega) (by omega)
  have hrm1 : rm (0 + (cut l 0 (k1 : Int)).length) 40 = true := rm_ok (by rw [cut_take, List.length_take]; omega) (by omega)
  have hrm2 : rm ((cut l 0 (k1 : Int)).length + 1) 40 = true := rm_ok (by rw [cut_take, List.length_take]; omega) (by omega)
  have hrm3 : rm ((cut l 0 (k1 : Int)).length + 1 + (cut l (k1 : Int) (ln l)).length) 40 = true := rm_ok (by rw [cut_take, cut_drop, List.length_take, List.length_drop]; omega) (by omega)
  have hspec : spec_AddClaim l x = some (bif ((!decide (x.State = 0)) || l.any (fun y => decide (y.Who = x.Who) && decide (y.Thing = x.Thing))) || !b then (l, false) else (insL l (k1 : Int) [x], true)) := by
    unfold spec_AddClaim
    simp only [hs', Option.bind_some]
    rw [show slB 0 (k1 : Int) (ln l) = true from slB_ok hk1, show slB (k1 : Int) (ln l) (ln l) = true from slB_end hk1]
    simp only [need_true, hrm, hrm1, hrm2, hrm3, ins_cut, b1, Option.bind_some]
    cases ((!decide (x.State = 0)) || l.any (fun y => decide (y.Who = x.Who) && decide (y.Thing = x.Thing))) <;> cases b <;> rfl
  have hdup : ∀ j : Nat, ∀ hj : j < l.length, l[j].Id = x.Id → b = true → False := fun j hj he hb => by
    subst hb
    exact ins_dup (fun y : Claim => y.Id) l k1 hk1 x (claims_up _ (by omega) b1) j hj he
  refine ⟨_, hspec, ?_, ?_, ?_⟩
  · unfold impl_AddClaim slices_Clone_Claim
    simp only [hrm, need_true, Option.bind_some, findClaimI l x.Id hl, hc, hr, insB_ok l k2 hk2 x 40 hl (by omega), c2]
    rw [← hbc]
    cases hb : b with
    | false =>
      cases decide (x.State = 0) <;> cases decide (0 ≤ claimIx l x.Id) <;> cases l.any (fun y => decide (y.Who = x.Who) && decide (y.Thing = x.Thing)) <;> rfl
    | true =>
      have hk := hone (.inl hb)
      rcases claimIx_at l x.Id with h | ⟨j, hj, h, hid⟩
      · rw [h, ← hk]
        cases decide (x.State = 0) <;> cases l.any (fun y => decide (y.Who = x.Who) && decide (y.Thing = x.Thing)) <;> rfl
      · exact absurd hb (fun hb => hdup j hj hid hb)
  · cases hb : b with
    | true =>
      subst hb
      have := (claims_len _ b1 (by omega)).1
      cases (((!decide (x.State = 0)) || l.any (fun y => decide (y.Who = x.Who) && decide (y.Thing = x.Thing))) || !true) with
      | true => exact hl
      | false => show (insL l (k1 : Int) [x]).length ≤ _; omega
    | false => rw [Bool.not_false, Bool.or_true]; exact hl
  · intro h
    have hb : b = true := by
      cases hb : b with
      | true => rfl
      | false => rw [hb, Bool.not_false, Bool.or_true] at h; cases h
    have hq : (((!decide (x.State = 0)) || l.any (fun y => decide (y.Who = x.Who) && decide (y.Thing = x.Thing))) || !b) = false := by
      cases hq : (((!decide (x.State = 0)) || l.any (fun y => decide (y.Who = x.Who) && decide (y.Thing = x.Thing))) || !b) with
      | false => rfl
      | true => rw [hq] at h; cases h
    rw [hq]
    refine ⟨k1, hk1, rfl, ?_, ?_, A1⟩
    · subst hb
      have hup := claims_up _ (by omega) b1
      have hlt : k1 < (insL l (k1 : Int) [x]).length := by omega
      have hx : (insL l (k1 : Int) [x])[k1] = x := by
        have := ins_at l k1 hk1 x
        rw [List.getElem?_eq_getElem hlt] at this
        exact Option.some.inj this
      obtain ⟨j, hj, h1, h2⟩ := claimIx_has (insL l (k1 : Int) [x]) x.Id k1 hlt (by rw [hx])
      show claimIx (insL l (k1 : Int) [x]) x.Id = _
      rw [h1]
      have hu := up_lt (n := (insL l (k1 : Int) [x]).length) (fun i => (gt (insL l (k1 : Int) [x]) (i : Int)).Id) (fun i h1 h2 => by
        show (gt (insL l (k1 : Int) [x]) ((i - 1 : Nat) : Int)).Id < (gt (insL l (k1 : Int) [x]) (i : Int)).Id
        rw [gt_n h1, gt_n (show i - 1 < (insL l (k1 : Int) [x]).length by omega)]; exact hup i h1 h2)
      by_cases h3 : j < k1
      · have := hu k1 j h3 hlt
        simp only [gt_n hj, gt_n hlt, h2, hx] at this; omega
      · by_cases h4 : k1 < j
        · have := hu j k1 h4 hj
          simp only [gt_n hj, gt_n hlt, h2, hx] at this; omega
        · congr 1; omega
    · intro j hj hjk
      have hk := hone (.inl hb)
      exact B1 j hj (by omega)
/-- A step that is behind a house in disorder, or that is refused. -/
theorem l34Bad (h out : House) (ok : Bool) (hm : sm_House h) (hb : houseB h = false) : spec_l34Done h out ok = some (h, false) := by
  unfold spec_l34Done
  simp only [(houseB_eq h hm).1, hb, l33Copy h hm, Option.bind_some]
  cases ok <;> rfl
theorem l34No (h out : House) (hm : sm_House h) : spec_l34Done h out false = some (h, false) := by
  unfold spec_l34Done
  simp only [l33Copy h hm, Option.bind_some]
  rfl
theorem stepped2 (h : House) (out : House) (hm : sm_House h) (ho : sm_House out) : impl_stepped_n2 h out = some (stepR h out true) := by
  unfold impl_stepped_n2 stepR
  have : slices_Contains_bool [] false = some false := by rw [anyFalse [] (by simp)]; rfl
  simp only [this, (houseB_eq h hm).2, (houseB_eq out ho).2, cloneHouse h hm, Option.bind_some]
  cases houseB h <;> cases houseB out <;> rfl
theorem trials_id (h : House) (m1 : h.Finds.length ≤ 1048576) (m2 : h.Secrets.length ≤ 1048576) (mm : ∀ x ∈ h.Secrets, x.Marks.length ≤ 1048576) (m4 : h.Claims.length ≤ 1048576) (ht : impl_areTrials h = some true) : ∀ i (hi : i < h.Claims.length) (hi2 : i < h.Trials.length), h.Trials[i].Claim = h.Claims[i].Id := by
  have hlen := trials_len h ht
  unfold impl_areTrials at ht
  rw [show (!decide (ln h.Trials = ln h.Claims)) = false from by rw [ln_eq, ln_eq, hlen]; simp] at ht
  have hstep : ∀ i (hi : i < h.Claims.length) (hi2 : i < h.Trials.length), ∃ o, impl_areTrials_l4 h h.Claims (ln h.Claims) (i : Int) = some o ∧ (o = .inl ((i + 1 : Nat) : Int) ∨ o = .inr (.ret false)) ∧ (o = .inl ((i + 1 : Nat) : Int) → h.Trials[i].Claim = h.Claims[i].Id) := by
    intro i hi hi2
    obtain ⟨t, _, t2⟩ := isTrialB h.Trials[i]
    obtain ⟨m, _, k2, k3⟩ := marksOf h.Secrets h.Claims[i].Thing m2 mm
    obtain ⟨c, _, s2⟩ := trialState m h.Trials[i] k3
    have hw : ∃ w, impl_wanted h.Claims[i].State = some w := by
      unfold impl_wanted
      cases decide (h.Claims[i].State = 0) <;> cases decide (h.Claims[i].State = 1) <;> cases decide (h.Claims[i].State = 3) <;> cases decide (h.Claims[i].State = 2) <;> exact ⟨_, rfl⟩
    obtain ⟨w, hw⟩ := hw
    simp only [impl_areTrials_l4, lt_ln hi, inb_n hi, gt_n hi, inb_n hi2, gt_n hi2, w64_n (show (i : Int) < 9223372036854775807 by omega), cond_true, need_true, t2, k2, s2, hw, (findThing h.Finds _ m1).2, Option.bind_some]
    by_cases hc : h.Trials[i].Claim = h.Claims[i].Id
    · cases decide (findIx h.Finds h.Claims[i].Thing < 0) <;> cases decide (h.Trials[i].Claim = h.Claims[i].Id) <;> cases t <;> cases decide (c = w) <;> first | exact ⟨_, rfl, .inl rfl, fun _ => hc⟩ | exact ⟨_, rfl, .inr rfl, fun _ => hc⟩
    · rw [decide_eq_false hc]
      cases decide (findIx h.Finds h.Claims[i].Thing < 0) <;> cases t <;> exact ⟨_, rfl, .inr rfl, fun h => by cases h⟩
  have key : ∀ (m i : Nat), i + m = h.Claims.length → run (impl_areTrials_l4 h h.Claims (ln h.Claims)) (i : Int) = some (.brk ()) ∨ run (impl_areTrials_l4 h h.Claims (ln h.Claims)) (i : Int) = some (.ret false) := by
    intro m
    induction m with
    | zero =>
      intro i hi
      have : i = h.Claims.length := by omega
      subst this
      left
      rw [run_eq]
      simp only [impl_areTrials_l4, ge_ln (Nat.le_refl _), cond_false]; rfl
    | succ m ih =>
      intro i hi
      obtain ⟨o, h1, h2, _⟩ := hstep i (by omega) (by omega)
      rw [run_eq, h1]
      rcases h2 with rfl | rfl
      · exact ih (i + 1) (by omega)
      · exact .inr rfl
  have key2 : ∀ (m i : Nat), i + m = h.Claims.length → run (impl_areTrials_l4 h h.Claims (ln h.Claims)) (i : Int) = some (.brk ()) → ∀ j (hj : j < h.Claims.length) (hj2 : j < h.Trials.length), i ≤ j → h.Trials[j].Claim = h.Claims[j].Id := by
    intro m
    induction m with
    | zero => intro i hi _ j hj _ hij; omega
    | succ m ih =>
      intro i hi hr j hj hj2 hij
      obtain ⟨o, h1, h2, h3⟩ := hstep i (by omega) (by omega)
      rw [run_eq, h1] at hr
      rcases h2 with rfl | rfl
      · by_cases hij' : i = j
        · subst hij'; exact h3 rfl
        · exact ih (i + 1) (by omega) hr j hj hj2 (by omega)
      · simp at hr
  intro i hi hi2
  rcases key h.Claims.length 0 (by omega) with hr | hr
  · exact key2 h.Claims.length 0 (by omega) hr i hi hi2 (by omega)
  · rw [show run (impl_areTrials_l4 h h.Claims (ln h.Claims)) 0 = some (.ret false) from hr] at ht
    cases ht
theorem stepClaim (h : House) (a w t : Int) (hm : sm_House h) : ∃ r, spec_StepClaim h a w t = some r ∧ impl_StepClaim h a w t = some r ∧ sm_House r.1 := by
  have hm7 := hm
  obtain ⟨m1, m2, m3, m4, m5, m6, m7⟩ := hm7
  obtain ⟨c, c1, c2, c3, c4⟩ := addClaim h.Claims ⟨a, w, t, h.Now, 0⟩ m4
  obtain ⟨v, v1, v2⟩ := slotWith_in h.Slots t m3
  obtain ⟨k, hk, hr, hf1, hf2⟩ := run_first (n := h.Trials.length) (fun i => decide ((gt h.Trials (i : Int)).Claim < a)) (step := spec_StepClaim_l5 a t h ⟨h.No, h.Finds, h.Secrets, h.Slots, c.1, h.Trials, h.Chain, h.Book, h.Now⟩ c.2)
    (fun i hi => by
      simp only [spec_StepClaim_l5, lt_ln hi, inb_n hi, w64_n (show (i : Int) < 9223372036854775807 by omega), cond_true, need_true, Option.bind_some]
      cases decide ((gt h.Trials (i : Int)).Claim < a) <;> rfl)
    (by simp only [spec_StepClaim_l5, ge_ln (Nat.le_refl _), cond_false]; rfl)
  have hrm1 : rm (cut h.Trials 0 (k : Int)).length 32 = true := rm_ok (by rw [cut_take, List.length_take]; omega) (by omega)
  have hrm2 : rm ((cut h.Trials 0 (k : Int)).length + 1) 32 = true := rm_ok (by rw [cut_take, List.length_take]; omega) (by omega)
  have hrm3 : rm ((cut h.Trials 0 (k : Int)).length + 1 + (cut h.Trials (k : Int) (ln h.Trials)).length) 32 = true := rm_ok (by rw [cut_take, cut_drop, List.length_take, List.length_drop]; omega) (by omega)
  have hspec : spec_StepClaim h a w t = bif c.2 then (spec_SlotOf h.Slots t).bind fun r3 => spec_l34Done h ⟨h.No, h.Finds, h.Secrets, h.Slots, c.1, insL h.Trials (k : Int) [⟨a, 0, 0, 0⟩], h.Chain, h.Book, h.Now⟩ (!decide (r3 = 0)) else some (h, false) := by
    unfold spec_StepClaim
    simp only [l33Copy h hm, c1, Option.bind_some, hr]
    rw [show slB 0 (k : Int) (ln h.Trials) = true from slB_ok hk, show slB (k : Int) (ln h.Trials) (ln h.Trials) = true from slB_end hk]
    simp only [need_true, hrm1, hrm2, hrm3, ins_cut]
    cases c.2 with
    | false => simp only [cond_false, l34No h _ hm, Option.bind_some]
    | true =>
      simp only [cond_true, slotOfV h.Slots t m3, Option.bind_some]
      cases spec_l34Done h ⟨h.No, h.Finds, h.Secrets, h.Slots, c.1, insL h.Trials (k : Int) [⟨a, 0, 0, 0⟩], h.Chain, h.Book, h.Now⟩ (!decide ((bif decide (t = 0) || decide (slotIx h.Slots t < 0) then (0 : Int) else (gt h.Slots (slotIx h.Slots t)).Id) = 0)) <;> rfl
  rw [hspec]
  unfold impl_StepClaim
  simp only [cloneHouse h hm, c2, Option.bind_some, (houseB_eq h hm).2, v1]
  cases hc : c.2 with
  | false => exact ⟨(h, false), rfl, rfl, hm⟩
  | true =>
    simp only [cond_true, Bool.not_true, cond_false, slotOfV h.Slots t m3, Option.bind_some]
    cases hb : houseB h with
    | false =>
      rw [l34Bad h _ _ hm hb]
      exact ⟨(h, false), rfl, rfl, hm⟩
    | true =>
      have ho := houseB_ok h hm hb
      have hcl := claims_len _ ho.cS (by omega)
      have htl := trials_len h ho.trials
      obtain ⟨k2, hk2, hins, hix, hlo, hhi⟩ := c4 hc
      have hids := trials_id h m1 m2.1 (fun x hx => m2.2 x hx) m4 ho.trials
      have hkk : k = k2 := by
        by_cases h1 : k < k2
        · have := hf2 (by omega)
          simp only [gt_n (show k < h.Trials.length by omega), decide_eq_false_iff_not] at this
          rw [hids k (by omega) (by omega)] at this
          exact absurd (hlo k (by omega) h1) this
        · by_cases h2 : k2 < k
          · have := hf1 k2 h2
            simp only [gt_n (show k2 < h.Trials.length by omega), decide_eq_true_eq] at this
            rw [hids k2 (by omega) (by omega)] at this
            exact absurd this (hhi k2 (by omega) (Nat.le_refl _))
          · omega
      have hil := ins_len h.Trials k hk (⟨a, 0, 0, 0⟩ : Trial)
      have wo : sm_House ⟨h.No, h.Finds, h.Secrets, h.Slots, c.1, insL h.Trials (k : Int) [⟨a, 0, 0, 0⟩], h.Chain, h.Book, h.Now⟩ := ⟨m1, m2, m3, c3, by show (insL h.Trials (k : Int) [⟨a, 0, 0, 0⟩]).length ≤ _; omega, m6, m7⟩
      have hslot : (!decide ((bif decide (t = 0) || decide (slotIx h.Slots t < 0) then (0 : Int) else (gt h.Slots (slotIx h.Slots t)).Id) = 0)) = inSlot h.Slots t := by
        unfold inSlot
        cases decide (t = 0) with
        | true => rfl
        | false =>
          rcases slotIx_any h.Slots t with ⟨_, h2⟩ | ⟨j, hj, h2, _, _⟩
          · rw [h2]; rfl
          · rw [h2]
            have hs2 : 1 ≤ h.Slots[j].Id := by
              obtain ⟨q, q1, _, q3⟩ := areSlots h.Slots m3
              rw [ho.tS] at q1
              exact (q3 (Option.some.inj q1).symm).2 _ (List.getElem_mem hj)
            simp only [Bool.false_or, decide_eq_false (show ¬ (j : Int) < 0 by omega), cond_false, gt_n hj, decide_eq_false (show ¬ h.Slots[j].Id = 0 by omega)]
      rw [hslot, l34Done h _ _ hm wo]
      refine ⟨_, rfl, ?_, stepR_sm _ _ _ hm wo⟩
      simp only [Bool.not_true, cond_false, Option.bind_some, v2]
      cases inSlot h.Slots t with
      | false => rfl
      | true =>
        simp only [Bool.not_true, cond_false, findClaimI c.1 a c3, hix, Option.bind_some, ← hkk, insB_ok h.Trials k hk (⟨a, 0, 0, 0⟩ : Trial) 32 m5 (by omega), need_true, stepped2 h _ hm wo]
end Go.Proofs.YtkbilciipmijjaaGreatDoor

/- An entry more in the book. The program's answers are the reference's. No condition but the length. -/
namespace Go.Proofs.YtkbilciipmijjaaGreatDoor
open Go
set_option linter.unusedVariables false
set_option linter.unusedSimpArgs false
theorem addEntry (l : List Entry) (x : Entry) (hl : l.length ≤ 1048576) : ∃ r, spec_AddEntry l x = some r ∧ impl_AddEntry l x = some r ∧ r.1.length ≤ 1048576 := by
  have hrm : rm (0 + l.length) 32 = true := rm_ok (by omega) (by omega)
  have hrm1 : rm (l.length + 1) 32 = true := rm_ok (by omega) (by omega)
  obtain ⟨b, b1, b2, b3⟩ := areEntriesL (l ++ [x]) (by simp; omega)
  unfold spec_AddEntry impl_AddEntry slices_Clone_Entry
  simp only [hrm, hrm1, need_true, Option.bind_some, b1, b2]
  cases b with
  | false => exact ⟨(l, false), rfl, rfl, hl⟩
  | true => exact ⟨_, rfl, rfl, by have := (b3 rfl).1; show (l ++ _).length ≤ _; omega⟩
end Go.Proofs.YtkbilciipmijjaaGreatDoor

/- A new house: the program's is the reference's. No condition but the length. -/
namespace Go.Proofs.YtkbilciipmijjaaGreatDoor
open Go
set_option linter.unusedVariables false
set_option linter.unusedSimpArgs false
theorem free_all (l : List Slot) (hl : l.length ≤ 1048576) (h : ∀ x ∈ l, x.Thing = 0) : spec_FreeSlots l = some (ln l) := by
  have h1 := run_traj (step := spec_FreeSlots_l3 l) (fun i => ((i : Int), (i : Int))) (r := (l.length : Int)) l.length (fun i hi => by
      have h0 : decide (l[i].Thing = 0) = true := decide_eq_true (h _ (List.getElem_mem hi))
      simp only [spec_FreeSlots_l3, lt_ln hi, inb_n hi, gt_n hi, h0, cond_true, need_true, w64_n (show (i : Int) < 9223372036854775807 by omega)])
    (by simp only [spec_FreeSlots_l3, ge_ln (Nat.le_refl _), cond_false])
  unfold spec_FreeSlots
  rw [show run (spec_FreeSlots_l3 l) (0, 0) = _ from h1]; rfl
theorem kept_free (h : House) (m3 : h.Slots.length ≤ 1048576) (hf : h.Finds = []) (hk : impl_areKept h = some true) : ∀ x ∈ h.Slots, x.Thing = 0 := by
  unfold impl_areKept at hk
  cases hd : (!decide (ln h.Secrets = ln h.Finds)) with
  | true => rw [hd] at hk; cases hk
  | false =>
  rw [hd, cond_false] at hk
  cases hr : impl_InHouse h.Chain h.No with
  | none => rw [hr] at hk; cases hk
  | some r =>
  rw [hr] at hk
  simp only [Option.bind_some] at hk
  cases h5 : run (impl_areKept_l5 h r h.Finds (ln h.Finds)) 0 with
  | none => rw [h5] at hk; cases hk
  | some o =>
  rw [h5] at hk
  cases o with
  | ret b =>
    exfalso
    rw [hf] at h5
    rw [run_eq] at h5
    have : decide ((0 : Int) < ln ([] : List Find)) = false := by decide
    simp only [impl_areKept_l5, this, cond_false, Option.bind_some] at h5
    cases h5
  | brk u =>
  simp only [Option.bind_some, evO] at hk
  have m1 : h.Finds.length ≤ 1048576 := by rw [hf]; simp
  have t3 := run_all h.Slots (fun x => decide (x.Thing = 0) || !decide (findIx h.Finds x.Thing < 0)) (r := false) (step := impl_areKept_l11 h r h.Slots (ln h.Slots))
    (fun i hi => by
      simp only [impl_areKept_l11, lt_ln hi, inb_n hi, gt_n hi, w64_n (show (i : Int) < 9223372036854775807 by omega), cond_true, need_true, (findThing h.Finds _ m1).2, Option.bind_some]
      cases decide (h.Slots[i].Thing = 0) <;> cases decide (findIx h.Finds h.Slots[i].Thing < 0) <;> rfl)
    (by simp only [impl_areKept_l11, ge_ln (Nat.le_refl _), cond_false])
  rw [t3] at hk
  cases ha : h.Slots.all (fun x => decide (x.Thing = 0) || !decide (findIx h.Finds x.Thing < 0)) with
  | false => rw [ha] at hk; cases hk
  | true =>
    intro x hx
    have := List.all_eq_true.1 ha x hx
    rw [hf] at this
    simpa [findIx] using this
theorem newHouse (no : Int) (l : List Slot) (hl : l.length ≤ 1048576) : ∃ r, spec_NewHouse no l = some r ∧ impl_NewHouse no l = some r ∧ sm_House r.1 := by
  have hm : sm_House ⟨no, [], [], l, [], [], [], [], 0⟩ := ⟨by simp, ⟨by simp, by simp⟩, hl, by simp, by simp, by simp, by simp⟩
  have h0 : sm_House ⟨0, [], [], [], [], [], [], [], 0⟩ := ⟨by simp, ⟨by simp, by simp⟩, by simp, by simp, by simp, by simp, by simp⟩
  obtain ⟨b, b1, b2⟩ := isHouse _ hm
  unfold spec_NewHouse impl_NewHouse slices_Clone_Slot
  simp only [l33Copy _ hm, rm_ok (show 0 + l.length ≤ 2000000 by omega) (show 24 ≤ 1024 by omega), need_true, Option.bind_some, b1, b2]
  cases b with
  | false => exact ⟨_, rfl, rfl, h0⟩
  | true =>
    have hk := (houseOk _ hm b2).kept
    have hfree := free_all l hl (kept_free _ hl rfl hk)
    simp only [hfree, Bool.not_true, cond_false, Option.bind_some, decide_true]
    exact ⟨_, rfl, rfl, hm⟩
end Go.Proofs.YtkbilciipmijjaaGreatDoor

/- The cursor of the draws: it never fails, and what it draws lies in its bounds. No condition but the length. -/
namespace Go.Proofs.YtkbilciipmijjaaGreatDoor
open Go
set_option linter.unusedVariables false
set_option linter.unusedSimpArgs false
theorem w64_rng (n : Int) : i64 (w64 n) := by unfold i64 w64; omega
theorem bit_and_small (a : Int) (m : Nat) (hm : m < 9223372036854775808) : ∃ x, bitI .and .i64 a (m : Int) = x ∧ 0 ≤ x ∧ x ≤ (m : Int) := by
  refine ⟨_, rfl, ?_⟩
  have e : ((m : Int) % 2 ^ IntKind.i64.bits).toNat = m := by
    rw [show ((2 : Int) ^ IntKind.i64.bits) = 18446744073709551616 from rfl]; omega
  have h := @Nat.and_le_right (a % 2 ^ IntKind.i64.bits).toNat m
  unfold bitI
  simp only [e, w64_eq]
  rw [w64_in (by omega) (by omega)]
  omega
/-- What the cursor is, all along. -/
def okC (c : l1Cur) : Prop := c.b.length ≤ 1048576 ∧ 0 ≤ c.i ∧ c.i ≤ c.b.length
theorem l1New_ok (l : List Int) (hl : l.length ≤ 1048576) : ∃ c, spec_l1New l = some c ∧ okC c := by
  have key : ∀ (m k : Nat) (a : Int), k + m = l.length → ∃ r, run (spec_l1New_l3 l) (a, (k : Int)) = some r := by
    intro m
    induction m with
    | zero =>
      intro k a hk
      have : k = l.length := by omega
      subst this
      exact ⟨a, by rw [run_eq]; simp only [spec_l1New_l3, ge_ln (Nat.le_refl _), Bool.false_and, cond_false, Option.bind_some]⟩
    | succ m ih =>
      intro k a hk
      have hlt : k < l.length := by omega
      cases h4 : decide ((k : Int) < 4000) with
      | false => exact ⟨a, by rw [run_eq]; simp only [spec_l1New_l3, h4, Bool.and_false, cond_false, Option.bind_some]⟩
      | true =>
        obtain ⟨r, hr⟩ := ih (k + 1) (bitI .and .i64 (w64 (w64 (w64 (a * 137) + w64 (gt l (k : Int))) + 11)) 1073741823) (by omega)
        exact ⟨r, by rw [run_eq]; simp only [spec_l1New_l3, lt_ln hlt, h4, Bool.and_self, inb_n hlt, cond_true, need_true, w64_n (show (k : Int) < 9223372036854775807 by omega), Option.bind_some]; exact hr⟩
  obtain ⟨r, hr⟩ := key l.length 0 (w64 (193017 + ln l)) (by omega)
  refine ⟨⟨l, 0, r⟩, ?_, hl, Int.le_refl _, by simp only; omega⟩
  unfold spec_l1New
  rw [show run (spec_l1New_l3 l) (w64 (193017 + ln l), 0) = some r from hr]; rfl
theorem bit255 (a : Int) : 0 ≤ bitI .and .i64 a 255 ∧ bitI .and .i64 a 255 ≤ 255 := by
  obtain ⟨x, e, h0, h1⟩ := bit_and_small a 255 (by omega)
  rw [show ((255 : Nat) : Int) = 255 from rfl] at e h1
  rw [e]; exact ⟨h0, h1⟩
theorem l1Byte_ok (c : l1Cur) (h : okC c) : ∃ c' x, spec_l1Byte c = some (c', x) ∧ okC c' ∧ 0 ≤ x ∧ x ≤ 255 := by
  obtain ⟨h1, h2, h3⟩ := h
  unfold spec_l1Byte
  by_cases hi : c.i < ln c.b
  · have hb : inb c.b c.i = true := by rw [inb_iff]; rw [ln_eq] at hi; omega
    rw [ln_eq] at hi
    rw [decide_eq_true (show c.i < ln c.b from hi), hb]
    have e : w64 (c.i + 1) = c.i + 1 := w64_in (by omega) (by omega)
    refine ⟨_, _, rfl, ⟨h1, ?_, ?_⟩, (bit255 _).1, (bit255 _).2⟩
    · show 0 ≤ w64 (c.i + 1)
      omega
    · show w64 (c.i + 1) ≤ (c.b.length : Int)
      omega
  · rw [decide_eq_false hi]
    exact ⟨_, _, rfl, ⟨h1, h2, h3⟩, (bit255 _).1, (bit255 _).2⟩
theorem tmod_in {x n : Int} (hx : 0 ≤ x) (hn : 0 < n) : 0 ≤ x.tmod n ∧ x.tmod n < n := ⟨Int.tmod_nonneg _ hx, Int.tmod_lt_of_pos x hn⟩
theorem l1Below_ok (c : l1Cur) (n : Int) (h : okC c) : ∃ c' x, spec_l1Below c n = some (c', x) ∧ okC c' ∧ 0 ≤ x ∧ (0 < n → x < n) := by
  unfold spec_l1Below
  by_cases h0 : n ≤ 0
  · rw [decide_eq_true h0]; exact ⟨c, 0, rfl, h, Int.le_refl _, fun hn => by omega⟩
  · have hz : (!decide (n = 0)) = true := by simp; omega
    rw [decide_eq_false h0, hz]
    by_cases h1 : n ≤ 256
    · rw [decide_eq_true h1]
      obtain ⟨c1, x1, e1, k1, l1, u1⟩ := l1Byte_ok c h
      have := tmod_in l1 (show 0 < n by omega)
      exact ⟨c1, x1.tmod n, by simp only [e1, cond_false, cond_true, Option.bind_some, need_true], k1, this.1, fun _ => this.2⟩
    · rw [decide_eq_false h1]
      obtain ⟨c1, x1, e1, k1, l1, u1⟩ := l1Byte_ok c h
      obtain ⟨c2, x2, e2, k2, l2, u2⟩ := l1Byte_ok c1 k1
      obtain ⟨c3, x3, e3, k3, l3, u3⟩ := l1Byte_ok c2 k2
      have e4 : w64 (w64 (w64 (x1 * 65536) + w64 (x2 * 256)) + x3) = x1 * 65536 + x2 * 256 + x3 := by
        rw [w64_in (n := x1 * 65536) (by omega) (by omega), w64_in (n := x2 * 256) (by omega) (by omega), w64_in (n := x1 * 65536 + x2 * 256) (by omega) (by omega), w64_in (by omega) (by omega)]
      have := tmod_in (show 0 ≤ x1 * 65536 + x2 * 256 + x3 by omega) (show 0 < n by omega)
      exact ⟨c3, (x1 * 65536 + x2 * 256 + x3).tmod n, by simp only [e1, e2, e3, e4, cond_false, Option.bind_some, need_true], k3, this.1, fun _ => this.2⟩
theorem l1Int_ok (c : l1Cur) (l : List Int) (h : okC c) (hl : 0 < l.length) : ∃ c' x, spec_l1Int_o1 c l = some (c', x) ∧ okC c' ∧ x ∈ l := by
  obtain ⟨c1, x1, e1, k1, l1, u1⟩ := l1Below_ok c (ln l) h
  have hlt := u1 (by rw [ln_eq]; omega)
  rw [ln_eq] at hlt
  obtain ⟨k, rfl⟩ : ∃ k : Nat, x1 = (k : Int) := ⟨x1.toNat, by omega⟩
  have hi : k < l.length := by omega
  refine ⟨c1, l[k], ?_, k1, List.getElem_mem hi⟩
  unfold spec_l1Int_o1
  rw [e1]
  simp only [Option.bind_some, inb_n hi, gt_n hi, need_true]
end Go.Proofs.YtkbilciipmijjaaGreatDoor

/- Hands that are drawn: the draw never fails, they are few, and their numbers fit. No condition but the length. -/
namespace Go.Proofs.YtkbilciipmijjaaGreatDoor
open Go
set_option linter.unusedVariables false
set_option linter.unusedSimpArgs false
theorem rm_few {n b : Nat} (hn : n ≤ 2000000) (hb : b ≤ 1024) : rm n b = true := by
  unfold rm
  refine decide_eq_true ?_
  have := Nat.mul_le_mul hn hb
  omega
def hk (x : Hand) : Prop := i64 x.Who ∧ i64 x.At
theorem l16One_ok (c : l1Cur) (a : Int) (h : okC c) (ha : i64 a) : ∃ c' x, spec_l16One c a = some (c', x) ∧ okC c' ∧ hk x := by
  obtain ⟨c1, x1, e1, k1, _⟩ := l1Below_ok c 4 h
  obtain ⟨c2, x2, e2, k2, _⟩ := l1Int_ok c1 [1, 1, 2, 2, 2, 3, 4, 5] k1 (by simp)
  obtain ⟨c3, x3, e3, k3, _⟩ := l1Below_ok c2 3 k2
  exact ⟨c3, _, by unfold spec_l16One; simp only [e1, e2, e3, Option.bind_some]; rfl, k3, w64_rng _, ha⟩
theorem addHand_ok (l : List Hand) (x : Hand) (hl : l.length ≤ 100000) (hx : hk x) (h : ∀ y ∈ l, hk y) :
    ∃ l' b, spec_AddHand l x = some (l', b) ∧ l'.length ≤ l.length + 1 ∧ ∀ y ∈ l', hk y := by
  have r1 : rm (0 + l.length) 40 = true := rm_few (by omega) (by omega)
  have r2 : rm (l.length + 1) 40 = true := rm_few (by omega) (by omega)
  have tail : ∀ r : Int, ∃ l' b, (nd (rm (0 + l.length) 40) <| nd (rm (l.length + 1) 40) <| (spec_IsChain (l ++ [(⟨x.Thing, x.Holder, x.Who, x.At, r⟩ : Hand)])).bind fun r2 => (bif (!r2) then nd (rm (0 + l.length) 40) <| some (l, false) else some (l ++ [(⟨x.Thing, x.Holder, x.Who, x.At, r⟩ : Hand)], true))) = some (l', b) ∧ l'.length ≤ l.length + 1 ∧ ∀ y ∈ l', hk y := by
    intro r
    obtain ⟨b, b1, _⟩ := isChain (l ++ [(⟨x.Thing, x.Holder, x.Who, x.At, r⟩ : Hand)])
    rw [r1, r2, b1]
    cases b with
    | false => exact ⟨l, false, rfl, by omega, h⟩
    | true =>
      refine ⟨_, true, rfl, by simp, fun y hy => ?_⟩
      rcases List.mem_append.1 hy with hy | hy
      · exact h y hy
      · rw [List.mem_singleton.1 hy]; exact hx
  unfold spec_AddHand
  by_cases h0 : 0 < l.length
  · rw [decide_eq_true (show 0 < ln l by rw [ln_eq]; omega), show w64 (ln l - 1) = ((l.length - 1 : Nat) : Int) from by rw [ln_eq, w64_in] <;> omega, inb_n (show l.length - 1 < l.length by omega), gt_n (show l.length - 1 < l.length by omega)]
    obtain ⟨s, s1, _⟩ := handSeal (l[l.length - 1]).Seal x
    simp only [s1, cond_true, need_true, Option.bind_some]
    exact tail s
  · rw [decide_eq_false (show ¬ 0 < ln l by rw [ln_eq]; omega)]
    obtain ⟨s, s1, _⟩ := handSeal 0 x
    simp only [s1, cond_false, Option.bind_some]
    exact tail s
theorem l16Draw_ok (c : l1Cur) (h : okC c) : ∃ c' l, spec_l16Draw c = some (c', l) ∧ okC c' ∧ l.length ≤ 12 ∧ ∀ y ∈ l, hk y := by
  have key : ∀ (m : Nat) (c : l1Cur) (l : List Hand) (a : Int), okC c → l.length + m ≤ 12 → i64 a → (∀ y ∈ l, hk y) → ∃ c' l', run spec_l16Draw_l4 (c, l, a, (m : Int)) = some (c', l') ∧ okC c' ∧ l'.length ≤ 12 ∧ ∀ y ∈ l', hk y := by
    intro m
    induction m with
    | zero =>
      intro c l a hc hl ha hy
      exact ⟨c, l, by rw [run_eq]; simp only [spec_l16Draw_l4, show decide ((0 : Int) < ((0 : Nat) : Int)) = false from rfl, cond_false, Option.bind_some], hc, by omega, hy⟩
    | succ m ih =>
      intro c l a hc hl ha hy
      obtain ⟨c1, x, e1, k1, kx⟩ := l16One_ok c a hc ha
      obtain ⟨l', b, e2, n2, hy2⟩ := addHand_ok l x (by omega) kx hy
      obtain ⟨c3, x3, e3, k3, _⟩ := l1Below_ok c1 9 k1
      obtain ⟨c', l2, r1, r2, r3, r4⟩ := ih c3 l' (w64 (a + x3)) k3 (by omega) (w64_rng _) hy2
      refine ⟨c', l2, ?_, r2, r3, r4⟩
      rw [run_eq]
      simp only [spec_l16Draw_l4, decide_eq_true (show (0 : Int) < ((m + 1 : Nat) : Int) by omega), e1, e2, e3, cond_true, Option.bind_some, show w64 (((m + 1 : Nat) : Int) - 1) = (m : Int) from by rw [w64_in] <;> omega]
      exact r1
  obtain ⟨c1, x1, e1, k1, l1, u1⟩ := l1Below_ok c 12 h
  have hx : x1 = ((x1.toNat : Nat) : Int) := by omega
  obtain ⟨c', l', r1, r2, r3, r4⟩ := key x1.toNat c1 [] 0 k1 (by have := u1 (by omega); simp; omega) (by unfold i64; omega) (by simp)
  refine ⟨c', l', ?_, r2, r3, r4⟩
  unfold spec_l16Draw
  rw [e1]
  simp only [Option.bind_some]
  rw [hx, r1]; rfl
theorem set_hk {l : List Hand} {n : Nat} {x : Hand} (h : ∀ y ∈ l, hk y) (hx : hk x) : ∀ y ∈ l.set n x, hk y := fun y hy => by
  rcases List.mem_or_eq_of_mem_set hy with hy | hy
  · exact h y hy
  · rw [hy]; exact hx
theorem l4Raw_ok (c : l1Cur) (h : okC c) : ∃ c' x, spec_l4Raw c = some (c', x) ∧ okC c' ∧ i64 x := by
  obtain ⟨c1, x1, e1, k1, m1⟩ := l1Int_ok c [(-1), 0, 8, 50, 51, 1000, 9223372036854775807, (-9223372036854775808)] h (by simp)
  refine ⟨c1, x1, by unfold spec_l4Raw; rw [e1]; rfl, k1, ?_⟩
  simp only [List.mem_cons, List.not_mem_nil, or_false] at m1
  unfold i64; omega
theorem l16Any_ok (c : l1Cur) (h : okC c) : ∃ c' l, spec_l16Any c = some (c', l) ∧ okC c' ∧ l.length ≤ 12 ∧ ∀ y ∈ l, hk y := by
  obtain ⟨c1, l, e1, k1, n1, hy⟩ := l16Draw_ok c h
  unfold spec_l16Any
  rw [e1]
  simp only [Option.bind_some]
  by_cases h0 : l.length = 0
  · rw [decide_eq_true (show ln l = 0 by rw [ln_eq]; omega)]; exact ⟨c1, l, rfl, k1, n1, hy⟩
  · rw [decide_eq_false (show ¬ ln l = 0 by rw [ln_eq]; omega)]
    obtain ⟨c2, x2, e2, k2, l2, u2⟩ := l1Below_ok c1 (ln l) k1
    obtain ⟨c3, x3, e3, k3, _⟩ := l1Below_ok c2 12 k2
    have u2 := u2 (by rw [ln_eq]; omega)
    rw [ln_eq] at u2
    have hx : x2 = ((x2.toNat : Nat) : Int) := by omega
    have hi : x2.toNat < l.length := by omega
    have hin : inb l x2 = true := by rw [inb_iff]; omega
    have hg : hk (gt l x2) := by rw [hx, gt_n hi]; exact hy _ (List.getElem_mem hi)
    obtain ⟨c4, x4, e4, k4, m4⟩ := l1Int_ok c3 [0, 5, 6] k3 (by simp)
    obtain ⟨c5, x5, e5, k5, m5⟩ := l4Raw_ok c3 k3
    obtain ⟨c6, x6, e6, k6, m6⟩ := l1Int_ok c3 [(-1), 100000, 100001] k3 (by simp)
    have i6 : i64 x6 := by
      simp only [List.mem_cons, List.not_mem_nil, or_false] at m6
      unfold i64; omega
    have ls : ∀ (n : Nat) (x : Hand), (l.set n x).length ≤ 12 := fun n x => by rw [List.length_set]; exact n1
    simp only [e2, e3, e4, e5, e6, hin, cond_false, Option.bind_some, need_true]
    cases decide (x3 = 0) with
    | true => exact ⟨_, _, rfl, k3, ls _ _, set_hk hy ⟨hg.1, hg.2⟩⟩
    | false =>
    cases decide (x3 = 1) with
    | true => exact ⟨_, _, rfl, k4, ls _ _, set_hk hy ⟨hg.1, hg.2⟩⟩
    | false =>
    cases decide (x3 = 2) with
    | true => exact ⟨_, _, rfl, k5, ls _ _, set_hk hy ⟨m5, hg.2⟩⟩
    | false =>
    cases decide (x3 = 3) with
    | true => exact ⟨_, _, rfl, k6, ls _ _, set_hk hy ⟨hg.1, i6⟩⟩
    | false =>
    cases decide (x3 = 4) with
    | true => exact ⟨_, _, rfl, k3, ls _ _, set_hk hy ⟨hg.1, hg.2⟩⟩
    | false => exact ⟨_, _, rfl, k3, n1, hy⟩
theorem drawHandsOf_ok (l : List Int) (hl : l.length ≤ 1048576) : ∃ h k, spec_DrawHandsOf l = some (h, k) ∧ h.length ≤ 12 ∧ ∀ y ∈ h, hk y := by
  obtain ⟨c, e, hc⟩ := l1New_ok l hl
  obtain ⟨c1, h, e1, k1, n1, hy⟩ := l16Any_ok c hc
  obtain ⟨c2, x2, e2, _⟩ := l1Below_ok c1 6 k1
  exact ⟨h, _, by unfold spec_DrawHandsOf; simp only [e, e1, e2, Option.bind_some]; rfl, n1, hy⟩
end Go.Proofs.YtkbilciipmijjaaGreatDoor

/- Draws of the first kinds: slots, things and finds. No condition but the length. -/
namespace Go.Proofs.YtkbilciipmijjaaGreatDoor
open Go
set_option linter.unusedVariables false
set_option linter.unusedSimpArgs false
theorem l33Slots_ok (c : l1Cur) (h : okC c) : ∃ c' l, spec_l33Slots c = some (c', l) ∧ okC c' ∧ l.length ≤ 100 := by
  have key : ∀ (m : Nat) (c : l1Cur) (l : List Slot) (i : Int), okC c → i + (m : Int) = 8 → 0 ≤ i → l.length + m ≤ 100 → ∃ c' l', run spec_l33Slots_l3 (c, l, i) = some (c', l') ∧ okC c' ∧ l'.length ≤ 100 := by
    intro m
    induction m with
    | zero =>
      intro c l i hc hi h0 hl
      obtain ⟨c1, x1, e1, k1, l1, u1⟩ := l1Below_ok c 5 hc
      have u1 := u1 (by omega)
      refine ⟨c1, l, ?_, k1, by omega⟩
      rw [run_eq]
      simp only [spec_l33Slots_l3, e1, Option.bind_some, show w64 (3 + x1) = 3 + x1 from w64_in (by omega) (by omega), decide_eq_false (show ¬ i ≤ 3 + x1 by omega), cond_false]
    | succ m ih =>
      intro c l i hc hi h0 hl
      obtain ⟨c1, x1, e1, k1, l1, u1⟩ := l1Below_ok c 5 hc
      have u1 := u1 (by omega)
      obtain ⟨c2, x2, e2, k2, _⟩ := l1Below_ok c1 4 k1
      rw [run_eq]
      simp only [spec_l33Slots_l3, e1, e2, Option.bind_some, show w64 (3 + x1) = 3 + x1 from w64_in (by omega) (by omega), rm_ok (show l.length + 1 ≤ 2000000 by omega) (show 24 ≤ 1024 by omega), need_true, show w64 (i + 1) = i + 1 from w64_in (by omega) (by omega)]
      by_cases hd : i ≤ 3 + x1
      · rw [decide_eq_true hd]
        exact ih c2 _ (i + 1) k2 (by omega) (by omega) (by simp; omega)
      · rw [decide_eq_false hd]
        exact ⟨c1, l, rfl, k1, by omega⟩
  obtain ⟨c', l', r1, r2, r3⟩ := key 7 c [] 1 h (by omega) (by omega) (by simp)
  exact ⟨c', l', by unfold spec_l33Slots; rw [r1]; rfl, r2, r3⟩
theorem l4Draw_ok (c : l1Cur) (i : Int) (h : okC c) : ∃ c' x, spec_l4Draw c i = some (c', x) ∧ okC c' ∧ x.Id = i := by
  obtain ⟨c1, x1, e1, k1, _⟩ := l1Below_ok c 8 h
  obtain ⟨c2, x2, e2, k2, _⟩ := l1Below_ok c1 8 k1
  obtain ⟨c3, x3, e3, k3, _⟩ := l1Below_ok c2 20 k2
  obtain ⟨c4, x4, e4, k4, _⟩ := l1Below_ok c3 500 k3
  exact ⟨c4, _, by unfold spec_l4Draw; simp only [e1, e2, e3, e4, Option.bind_some]; rfl, k4, rfl⟩
theorem l6Draw_ok (c : l1Cur) (i : Int) (h : okC c) : ∃ c' x, spec_l6Draw c i = some (c', x) ∧ okC c' := by
  obtain ⟨c1, x1, e1, k1, _⟩ := l4Draw_ok c i h
  obtain ⟨c2, x2, e2, k2, _⟩ := l1Below_ok c1 6 k1
  obtain ⟨c3, x3, e3, k3, _⟩ := l1Below_ok c2 80 k2
  obtain ⟨c4, x4, e4, k4, _⟩ := l1Below_ok c3 5 k3
  exact ⟨c4, _, by unfold spec_l6Draw; simp only [e1, e2, e3, e4, Option.bind_some]; rfl, k4⟩
theorem run_invD {S R : Type} {step : S → Option (S ⊕ R)} (I : S → Prop) (J : R → Prop) (h1 : ∀ s s', I s → step s = some (.inl s') → I s') (h2 : ∀ s r, I s → step s = some (.inr r) → J r) {s : S} {r : R} (hs : I s) (h : run step s = some r) : J r := by
  obtain ⟨n, hn⟩ := run_some.1 h
  clear h
  induction n generalizing s with
  | zero => simp [itr] at hn
  | succ n ih =>
    simp only [itr] at hn
    cases ho : step s with
    | none => rw [ho] at hn; cases hn
    | some o =>
      rw [ho] at hn
      cases o with
      | inl s' => exact ih (h1 _ _ hs ho) hn
      | inr q => injection hn with hn; subst hn; exact h2 _ _ hs ho
theorem nd_someD {B : Type} {b : Bool} {q : Option B} {r : B} (h : (nd b <| q) = some r) : b = true ∧ q = some r := by
  cases b with
  | false => cases h
  | true => exact ⟨rfl, h⟩
theorem mem_cutD {A : Type} {l : List A} {a b : Int} {x : A} (h : x ∈ cut l a b) : x ∈ l := by
  unfold cut at h
  exact List.mem_of_mem_take (List.mem_of_mem_drop h)
theorem gt_memD {A : Type} [Inhabited A] {l : List A} {i : Int} (h : inb l i = true) : gt l i ∈ l := by
  rw [inb_iff] at h
  obtain ⟨k, rfl⟩ : ∃ k : Nat, i = (k : Int) := ⟨i.toNat, by omega⟩
  have hk : k < l.length := by omega
  rw [gt_n hk]; exact List.getElem_mem hk
theorem mem_setD {A : Type} {l : List A} {n : Nat} {x y : A} (h : y ∈ l.set n x) : y ∈ l ∨ y = x := List.mem_or_eq_of_mem_set h
end Go.Proofs.YtkbilciipmijjaaGreatDoor
