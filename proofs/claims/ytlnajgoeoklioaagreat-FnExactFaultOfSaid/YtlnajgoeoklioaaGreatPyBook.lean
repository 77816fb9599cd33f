/- The book and its accounts: the program's answers are the reference's. No condition but the length. -/
import Derived.Test.YtlnajgoeoklioaaGreatPyRun
namespace Go.Proofs.YtlnajgoeoklioaaGreat
open Go
set_option linter.unusedVariables false
set_option linter.unusedSimpArgs false
set_option maxRecDepth 100000
/-! ### ascending lists -/
theorem asc_eq : ∀ {a b : List Int}, a.Pairwise (· < ·) → b.Pairwise (· < ·) → (∀ x, x ∈ a ↔ x ∈ b) → a = b
  | [], [], _, _, _ => rfl
  | [], y :: b, _, _, h => by have := (h y).2 (by simp); simp at this
  | x :: a, [], _, _, h => by have := (h x).1 (by simp); simp at this
  | x :: a, y :: b, ha, hb, h => by
    obtain ⟨ha1, ha2⟩ := List.pairwise_cons.1 ha
    obtain ⟨hb1, hb2⟩ := List.pairwise_cons.1 hb
    have hxy : x = y := by
      have h1 := (h x).1 (by simp)
      have h2 := (h y).2 (by simp)
      rcases List.mem_cons.1 h1 with h1 | h1
      · exact h1
      · rcases List.mem_cons.1 h2 with h2 | h2
        · exact h2.symm
        · have := hb1 x h1
          have := ha1 y h2
          omega
    subst hxy
    refine congrArg _ (asc_eq ha2 hb2 fun z => ?_)
    have hz := h z
    constructor
    · intro hza
      rcases List.mem_cons.1 (hz.1 (List.mem_cons_of_mem _ hza)) with e | e
      · have := ha1 z hza; omega
      · exact e
    · intro hzb
      rcases List.mem_cons.1 (hz.2 (List.mem_cons_of_mem _ hzb)) with e | e
      · have := hb1 z hzb; omega
      · exact e
theorem put_asc {l : List Int} {v : Int} (hl : l.Pairwise (· < ·)) {n : Nat} (hn : n ≤ l.length) (h1 : ∀ i (h : i < l.length), i < n → l[i] < v) (h2 : ∀ (h : n < l.length), v < l[n]) :
    (l.take n ++ [v] ++ l.drop n).Pairwise (· < ·) := by
  have hd : ∀ x ∈ l.drop n, v < x := by
    intro x hx
    obtain ⟨i, hi, rfl⟩ := List.mem_iff_getElem.1 hx
    rw [List.length_drop] at hi
    rw [List.getElem_drop]
    have hv := h2 (by omega)
    by_cases h0 : i = 0
    · subst h0; simpa using hv
    · have := List.pairwise_iff_getElem.1 hl n (n + i) (by omega) (by omega) (by omega)
      omega
  have ht : ∀ x ∈ l.take n, x < v := by
    intro x hx
    obtain ⟨i, hi, rfl⟩ := List.mem_iff_getElem.1 hx
    rw [List.length_take] at hi
    rw [List.getElem_take]
    exact h1 i (by omega) (by omega)
  rw [List.pairwise_append, List.pairwise_append]
  refine ⟨⟨hl.sublist (List.take_sublist _ _), by simp, fun x hx y hy => ?_⟩, hl.sublist (List.drop_sublist _ _), fun x hx y hy => ?_⟩
  · simp only [List.mem_singleton] at hy
    subst hy
    exact ht x hx
  · simp only [List.mem_append, List.mem_singleton] at hx
    rcases hx with hx | rfl
    · have := ht x hx
      have := hd y hy
      omega
    · exact hd y hy
theorem l9Put_ok (l : List Int) (v : Int) (hl : l.Pairwise (· < ·)) (hlen : l.length ≤ 4194304) :
    ∃ r, spec_l9Put l v = some r ∧ r.Pairwise (· < ·) ∧ (∀ x, x ∈ r ↔ x ∈ l ∨ x = v) ∧ r.length ≤ l.length + 1 := by
  let n := l.findIdx (fun x => !decide (x < v))
  have hnl : n ≤ l.length := List.findIdx_le_length
  have h1 : ∀ i (h : i < l.length), i < n → l[i] < v := fun i h hi => by
    have := List.not_of_lt_findIdx (p := fun x => !decide (x < v)) hi
    simpa using this
  have h2 : ∀ (h : n < l.length), ¬ l[n] < v := fun h => by
    have := List.findIdx_getElem (p := fun x => !decide (x < v)) (w := h)
    simpa using this
  have hrun : run (spec_l9Put_l2 l v) 0 = some ((n : Nat) : Int) := by
    refine run_traj (step := spec_l9Put_l2 l v) (fun i => (i : Int)) n (fun i hi => ?_) ?_
    · have hil : i < l.length := by omega
      simp only [spec_l9Put_l2, lt_ln hil, inb_n hil, gt_n hil, cond_true, need_true, decide_eq_true (h1 i hil hi), Option.bind_some, w64_n (show (i : Int) < 9223372036854775807 by omega)]
    · by_cases h : n < l.length
      · simp only [spec_l9Put_l2, lt_ln h, inb_n h, gt_n h, cond_true, need_true, decide_eq_false (h2 h), Option.bind_some, cond_false]
      · simp only [spec_l9Put_l2, ge_ln (show l.length ≤ n by omega), cond_false, Option.bind_some]
  unfold spec_l9Put
  rw [hrun]
  simp only [Option.bind_some]
  by_cases h : n < l.length
  · simp only [lt_ln h, inb_n h, gt_n h, cond_true, need_true, Option.bind_some]
    by_cases hv : l[n] = v
    · rw [decide_eq_true hv]
      have hrm : rm (0 + l.length) 8 = true := by unfold rm; exact decide_eq_true (by omega)
      refine ⟨l, by rw [hrm]; rfl, hl, fun x => ⟨.inl, fun hx => ?_⟩, by omega⟩
      rcases hx with hx | rfl
      · exact hx
      · rw [← hv]; exact List.getElem_mem _
    · rw [decide_eq_false hv]
      have hc0 : cut l 0 ((n : Nat) : Int) = l.take n := by unfold cut; simp
      have hc1 : cut l ((n : Nat) : Int) (ln l) = l.drop n := by unfold cut ln; simp
      have hs0 : slB 0 ((n : Nat) : Int) (ln l) = true := by unfold slB ln; simp; omega
      have hs1 : slB ((n : Nat) : Int) (ln l) (ln l) = true := by unfold slB ln; simp; omega
      have hr0 : rm (0 + (l.take n).length) 8 = true := by unfold rm; exact decide_eq_true (by rw [List.length_take]; omega)
      have hr1 : rm ((l.take n).length + 1) 8 = true := by unfold rm; exact decide_eq_true (by rw [List.length_take]; omega)
      have hr2 : rm ((l.take n).length + 1 + (l.drop n).length) 8 = true := by unfold rm; exact decide_eq_true (by rw [List.length_take, List.length_drop]; omega)
      refine ⟨l.take n ++ [v] ++ l.drop n, by simp only [hc0, hc1, hs0, hs1, hr0, hr1, hr2, need_true, cond_false], ?_, fun x => ?_, ?_⟩
      · exact put_asc hl hnl h1 fun h' => by have := h2 h'; omega
      · have : x ∈ l ↔ x ∈ l.take n ∨ x ∈ l.drop n := by rw [← List.mem_append, List.take_append_drop]
        rw [this]
        simp only [List.mem_append, List.mem_singleton]
        constructor
        · rintro ((a | a) | a) <;> simp [a]
        · rintro ((a | a) | a) <;> simp [a]
      · simp only [List.length_append, List.length_take, List.length_drop, List.length_singleton]; omega
  · have hn : n = l.length := by omega
    simp only [ge_ln (show l.length ≤ n by omega), cond_false, Option.bind_some]
    have hc0 : cut l 0 ((n : Nat) : Int) = l.take n := by unfold cut; simp
    have hc1 : cut l ((n : Nat) : Int) (ln l) = l.drop n := by unfold cut ln; simp
    have hs0 : slB 0 ((n : Nat) : Int) (ln l) = true := by unfold slB ln; simp; omega
    have hs1 : slB ((n : Nat) : Int) (ln l) (ln l) = true := by unfold slB ln; simp; omega
    have hr0 : rm (0 + (l.take n).length) 8 = true := by unfold rm; exact decide_eq_true (by rw [List.length_take]; omega)
    have hr1 : rm ((l.take n).length + 1) 8 = true := by unfold rm; exact decide_eq_true (by rw [List.length_take]; omega)
    have hr2 : rm ((l.take n).length + 1 + (l.drop n).length) 8 = true := by unfold rm; exact decide_eq_true (by rw [List.length_take, List.length_drop]; omega)
    refine ⟨l.take n ++ [v] ++ l.drop n, by simp only [hc0, hc1, hs0, hs1, hr0, hr1, hr2, need_true], ?_, fun x => ?_, ?_⟩
    · exact put_asc hl hnl h1 fun h' => absurd h' h
    · have : x ∈ l ↔ x ∈ l.take n ∨ x ∈ l.drop n := by rw [← List.mem_append, List.take_append_drop]
      rw [this]
      simp only [List.mem_append, List.mem_singleton]
      constructor
      · rintro ((a | a) | a) <;> simp [a]
      · rintro ((a | a) | a) <;> simp [a]
    · simp only [List.length_append, List.length_take, List.length_drop, List.length_singleton]; omega
/-- The numbers of the entries' accounts, as they come. -/
def accs (l : List Entry) : List Int := l.flatMap fun x => [x.From, x.To]
theorem accs_mem_take (l : List Entry) (i : Nat) (h : i < l.length) (x : Int) : x ∈ accs (l.take (i + 1)) ↔ x ∈ accs (l.take i) ∨ x = l[i].From ∨ x = l[i].To := by
  rw [List.take_succ_eq_append_getElem h]
  unfold accs
  rw [List.flatMap_append, List.mem_append]
  simp only [List.flatMap_cons, List.flatMap_nil, List.append_nil, List.mem_cons, List.not_mem_nil, or_false]
theorem accs_len : ∀ l : List Entry, (accs l).length = 2 * l.length
  | [] => rfl
  | x :: l => by
    have := accs_len l
    unfold accs at this ⊢
    simp only [List.flatMap_cons, List.length_append, List.length_cons, List.length_nil, this]
    omega
theorem specAccounts (l : List Entry) (hl : l.length ≤ 1048576) : ∃ r, spec_AccountsOf l = some r ∧ r.Pairwise (· < ·) ∧ (∀ x, x ∈ r ↔ x ∈ accs l) ∧ r.length ≤ 2097152 := by
  obtain ⟨v, h1, h2, h3, h4⟩ := run_inv (n := l.length) (step := spec_AccountsOf_l3 l) (fin := fun v => v)
    (fun i v => v.Pairwise (· < ·) ∧ (∀ x, x ∈ v ↔ x ∈ accs (l.take i)) ∧ v.length ≤ 2 * i)
    (fun i v hi ⟨q1, q2, q3⟩ => by
      obtain ⟨r, e1, e2, e3, e4⟩ := l9Put_ok v l[i].From q1 (by omega)
      obtain ⟨r', f1, f2, f3, f4⟩ := l9Put_ok r l[i].To e2 (by omega)
      refine ⟨r', ?_, f2, fun x => ?_, by omega⟩
      · simp only [spec_AccountsOf_l3, lt_ln hi, inb_n hi, gt_n hi, cond_true, need_true, e1, f1, Option.bind_some, w64_n (show (i : Int) < 9223372036854775807 by omega)]
      · rw [f3, e3, q2, accs_mem_take l i hi, or_assoc])
    (fun v _ => by simp only [spec_AccountsOf_l3, ge_ln (Nat.le_refl _), cond_false])
    [] ⟨List.Pairwise.nil, fun x => by simp [accs], by simp⟩
  refine ⟨v, by unfold spec_AccountsOf; rw [h1]; rfl, h2, fun x => by rw [h3, List.take_length], by omega⟩
/-! ### runs made one -/
theorem comp_upto {zs : List Int} (hs : zs.Pairwise (· ≤ ·)) : ∀ m, m ≤ zs.length → (Lib.compactUpTo zs.toArray m).Pairwise (· < ·) ∧ (∀ x, x ∈ Lib.compactUpTo zs.toArray m ↔ x ∈ zs.take m)
  | 0, _ => by simp [Lib.compactUpTo]
  | m + 1, hm => by
    obtain ⟨h1, h2⟩ := comp_upto hs m (by omega)
    have hmz : m < zs.length := by omega
    have hget : zs.toArray[m]! = zs[m] := by rw [getElem!_pos _ m (by simpa using hmz)]; simp
    rw [Lib.compactUpTo_succ, List.take_succ_eq_append_getElem hmz]
    by_cases h0 : m = 0
    · subst h0
      rw [Lib.keeps_lt_one _ 0 (by omega), if_pos rfl, hget]
      simp [Lib.compactUpTo]
    · have hget' : zs.toArray[m - 1]! = zs[m - 1] := by rw [getElem!_pos _ (m - 1) (by simp; omega)]; simp
      have hle : ∀ x ∈ zs.take m, x ≤ zs[m - 1] := by
        intro x hx
        obtain ⟨i, hi, rfl⟩ := List.mem_iff_getElem.1 hx
        rw [List.length_take] at hi
        rw [List.getElem_take]
        by_cases hi' : i = m - 1
        · subst hi'; omega
        · exact List.pairwise_iff_getElem.1 hs i (m - 1) (by omega) (by omega) (by omega)
      have hlast : zs[m - 1] ∈ zs.take m := by
        rw [List.mem_iff_getElem]
        exact ⟨m - 1, by rw [List.length_take]; omega, List.getElem_take⟩
      have hstep : zs[m - 1] ≤ zs[m] := List.pairwise_iff_getElem.1 hs (m - 1) m (by omega) (by omega) (by omega)
      by_cases he : zs[m] = zs[m - 1]
      · rw [Lib.keeps_neg (by omega) (by rw [hget, hget', he])]
        simp only [Bool.false_eq_true, if_false, List.append_nil]
        refine ⟨h1, fun x => ?_⟩
        rw [h2, List.mem_append, List.mem_singleton]
        exact ⟨.inl, fun h => h.elim id fun h => by rw [h, he]; exact hlast⟩
      · rw [Lib.keeps_pos (by rw [hget, hget']; exact he), if_pos rfl, hget]
        refine ⟨List.pairwise_append.2 ⟨h1, by simp, fun x hx y hy => ?_⟩, fun x => ?_⟩
        · simp only [List.mem_singleton] at hy
          subst hy
          have := hle x ((h2 x).1 hx)
          omega
        · rw [List.mem_append, List.mem_append, h2]
theorem comp_sort (l : List Int) : (compI (sortI l)).Pairwise (· < ·) ∧ ∀ x, x ∈ compI (sortI l) ↔ x ∈ l := by
  have hs : (sortI l).Pairwise (· ≤ ·) := by
    have := List.pairwise_mergeSort (le := fun x y : Int => decide (x ≤ y)) (fun a b c h1 h2 => by simp at *; omega) (fun a b => by simp; omega) l
    unfold sortI
    exact this.imp fun h => by simpa using h
  obtain ⟨h1, h2⟩ := comp_upto hs (sortI l).length (Nat.le_refl _)
  refine ⟨h1, fun x => ?_⟩
  have := h2 x
  rw [List.take_length] at this
  exact this.trans (by unfold sortI; rw [List.mem_mergeSort])
theorem implAccounts (l : List Entry) (hl : l.length ≤ 1048576) : impl_AccountsOf l = some (compI (sortI (accs l))) := by
  have hrun : run (impl_AccountsOf_l3 l (ln l)) ([], 0) = some (accs l) := by
    have := run_traj (step := impl_AccountsOf_l3 l (ln l)) (fun i => (accs (l.take i), (i : Int))) (r := accs l) l.length (fun i hi => by
        have hlen : (accs (l.take i)).length ≤ 2 * i := by rw [accs_len, List.length_take]; omega
        have hrm : rm ((accs (l.take i)).length + 2) 8 = true := by unfold rm; exact decide_eq_true (by omega)
        have he : accs (l.take (i + 1)) = accs (l.take i) ++ [l[i].From, l[i].To] := by unfold accs; rw [List.take_succ_eq_append_getElem hi, List.flatMap_append]; rfl
        simp only [impl_AccountsOf_l3, lt_ln hi, inb_n hi, gt_n hi, cond_true, need_true, hrm, he, w64_n (show (i : Int) < 9223372036854775807 by omega)])
      (by simp only [impl_AccountsOf_l3, ge_ln (Nat.le_refl _), cond_false, List.take_length])
    simpa [accs] using this
  have ha := accs_len l
  generalize hacc : accs l = a at *
  have hal : a.length ≤ 2097152 := by omega
  have hl2 : ln [a, []] = 2 := rfl
  have hc : slices_Concat_int [a, []] = some a := by
    unfold slices_Concat_int
    have w0 : w64 (0 + ln a) = ln a := by rw [w64_in] <;> unfold ln <;> omega
    have w1 : w64 (ln a + ln ([] : List Int)) = ln a := by rw [w64_in] <;> unfold ln <;> simp <;> omega
    have hneg : decide (ln a < 0) = false := decide_eq_false (by unfold ln; omega)
    have s0 : slices_Concat_int_l3 [a, []] [a, []] (ln [a, []]) (0, 0) = some (.inl (ln a, 1)) := by
      have g0 : gt [a, ([] : List Int)] 0 = a := rfl
      simp only [slices_Concat_int_l3, hl2, g0, show inb [a, ([] : List Int)] 0 = true from rfl, show decide ((0 : Int) < 2) = true from rfl, w0, hneg, cond_true, cond_false, need_true, show w64 (0 + 1) = 1 from rfl]
    have s1 : slices_Concat_int_l3 [a, []] [a, []] (ln [a, []]) (ln a, 1) = some (.inl (ln a, 2)) := by
      have g1 : gt [a, ([] : List Int)] 1 = [] := rfl
      simp only [slices_Concat_int_l3, hl2, g1, show inb [a, ([] : List Int)] 1 = true from rfl, show decide ((1 : Int) < 2) = true from rfl, w1, hneg, cond_true, cond_false, need_true, show w64 (1 + 1) = 2 from rfl]
    have s2 : slices_Concat_int_l3 [a, []] [a, []] (ln [a, []]) (ln a, 2) = some (.inr (ln a)) := rfl
    have r1 : run (slices_Concat_int_l3 [a, []] [a, []] (ln [a, []])) (0, 0) = some (ln a) := by
      rw [run_eq, s0]; show run _ (ln a, 1) = _
      rw [run_eq, s1]; show run _ (ln a, 2) = _
      rw [run_eq, s2]; rfl
    have hg : slices_Grow_int (ln a) = some [] := by
      unfold slices_Grow_int nd
      rw [show (decide (0 ≤ ln a) && decide (ln a ≤ 17592186044416)) = true by unfold ln; simp; omega]
      rfl
    have t0 : slices_Concat_int_l11 [a, []] (ln [a, []]) ([], 0) = some (.inl (a, 1)) := by
      have hrm : rm (([] : List Int).length + a.length) 8 = true := by unfold rm; exact decide_eq_true (by simp; omega)
      show (bif decide ((0 : Int) < 2) then nd (inb [a, []] 0) <| nd (rm (([] : List Int).length + a.length) 8) <| some (Sum.inl ([] ++ a, w64 (0 + 1))) else some (Sum.inr [])) = _
      rw [hrm]; rfl
    have t1 : slices_Concat_int_l11 [a, []] (ln [a, []]) (a, 1) = some (.inl (a, 2)) := by
      have hrm : rm (a.length + ([] : List Int).length) 8 = true := by unfold rm; exact decide_eq_true (by simp; omega)
      show (bif decide ((1 : Int) < 2) then nd (inb [a, []] 1) <| nd (rm (a.length + ([] : List Int).length) 8) <| some (Sum.inl (a ++ [], w64 (1 + 1))) else some (Sum.inr a)) = _
      rw [hrm, List.append_nil]; rfl
    have t2 : slices_Concat_int_l11 [a, []] (ln [a, []]) (a, 2) = some (.inr a) := rfl
    have r2 : run (slices_Concat_int_l11 [a, []] (ln [a, []])) ([], 0) = some a := by
      rw [run_eq, t0]; show run _ (a, 1) = _
      rw [run_eq, t1]; show run _ (a, 2) = _
      rw [run_eq, t2]; rfl
    rw [r1]
    simp only [Option.bind_some, hg, r2]
  unfold impl_AccountsOf impl_united_n1
  have hsl : (sortI a).length = a.length := by unfold sortI; simp
  rw [hrun]
  simp only [Option.bind_some, hc, hsl, show decide (a.length < 4611686018427387904) = true from decide_eq_true (by omega), need_true]
theorem accountsOf (l : List Entry) (hl : l.length ≤ 1048576) : ∃ r, spec_AccountsOf l = some r ∧ impl_AccountsOf l = some r ∧ r.length ≤ 2097152 := by
  obtain ⟨r, h1, h2, h3, h4⟩ := specAccounts l hl
  obtain ⟨q1, q2⟩ := comp_sort (accs l)
  have : compI (sortI (accs l)) = r := asc_eq q1 h2 fun x => (q2 x).trans (h3 x).symm
  exact ⟨r, h1, by rw [implAccounts l hl, this], h4⟩
/-! ### balances -/
theorem w64_w (x y : Int) : w64 (w64 x + y) = w64 (x + y) := by unfold w64; omega
theorem w64_s (x y : Int) : w64 (w64 x - y) = w64 (x - y) := by unfold w64; omega
theorem w64_ss (x y : Int) : w64 (w64 x - w64 y) = w64 (x - y) := by unfold w64; omega
def sumTo (l : List Entry) (a : Int) : Int := (l.map fun x => if x.To = a then x.Cents else 0).sum
def sumFrom (l : List Entry) (a : Int) : Int := (l.map fun x => if x.From = a then x.Cents else 0).sum
theorem sumTo_take (l : List Entry) (a : Int) (i : Nat) (h : i < l.length) : sumTo (l.take (i + 1)) a = sumTo (l.take i) a + (if l[i].To = a then l[i].Cents else 0) := by
  unfold sumTo; rw [List.take_succ_eq_append_getElem h, List.map_append, List.sum_append]; rw [List.map_cons, List.map_nil, List.sum_cons, List.sum_nil, Int.add_zero]
theorem sumFrom_take (l : List Entry) (a : Int) (i : Nat) (h : i < l.length) : sumFrom (l.take (i + 1)) a = sumFrom (l.take i) a + (if l[i].From = a then l[i].Cents else 0) := by
  unfold sumFrom; rw [List.take_succ_eq_append_getElem h, List.map_append, List.sum_append]; rw [List.map_cons, List.map_nil, List.sum_cons, List.sum_nil, Int.add_zero]
theorem balanceB (l : List Entry) (a : Int) (hl : l.length ≤ 1048576) : ∃ v, spec_Balance l a = some v ∧ impl_Balance l a = some v := by
  obtain ⟨b, e1, e2, e3⟩ := areEntries l hl
  cases b with
  | false =>
    refine ⟨0, ?_, by unfold impl_Balance; rw [e2]; rfl⟩
    unfold spec_Balance
    rw [run_eq]
    show Option.bind (Option.bind (Option.bind (bif decide ((0 : Int) < ln l) then (spec_AreEntries l).bind fun r => some r else some false) _) _) _ = _
    rw [e1]
    by_cases h : (0 : Int) < ln l
    · rw [decide_eq_true h]; rfl
    · rw [decide_eq_false h]; rfl
  | true =>
    refine ⟨w64 (sumTo l a - sumFrom l a), ?_, ?_⟩
    · unfold spec_Balance
      have hr : run (spec_Balance_l3 l a) (0, 0) = some (w64 (sumTo l a - sumFrom l a)) := by
        have := run_traj (step := spec_Balance_l3 l a) (fun i => (w64 (sumTo (l.take i) a - sumFrom (l.take i) a), (i : Int))) (r := w64 (sumTo l a - sumFrom l a)) l.length (fun i hi => by
            simp only [spec_Balance_l3, lt_ln hi, inb_n hi, gt_n hi, cond_true, need_true, e1, Option.bind_some, w64_n (show (i : Int) < 9223372036854775807 by omega), sumTo_take l a i hi, sumFrom_take l a i hi]
            by_cases h1 : l[i].To = a <;> by_cases h2 : l[i].From = a
            · rw [decide_eq_true h1, decide_eq_true h2, if_pos h1, if_pos h2, cond_true, cond_true, w64_w, w64_s]
              exact congrArg (fun z => some (Sum.inl (w64 z, _))) (by omega)
            · rw [decide_eq_true h1, decide_eq_false h2, if_pos h1, if_neg h2, cond_true, cond_false, w64_w]
              exact congrArg (fun z => some (Sum.inl (w64 z, _))) (by omega)
            · rw [decide_eq_false h1, decide_eq_true h2, if_neg h1, if_pos h2, cond_false, cond_true, w64_s]
              exact congrArg (fun z => some (Sum.inl (w64 z, _))) (by omega)
            · rw [decide_eq_false h1, decide_eq_false h2, if_neg h1, if_neg h2, cond_false, cond_false]
              exact congrArg (fun z => some (Sum.inl (w64 z, _))) (by omega))
          (by simp only [spec_Balance_l3, ge_ln (Nat.le_refl _), cond_false, Option.bind_some, List.take_length])
        simpa [sumTo, sumFrom, w64] using this
      rw [hr]; rfl
    · unfold impl_Balance impl_totalTo impl_TotalPaid
      have h1 : run (impl_totalTo_l3 a l (ln l)) (0, 0) = some (w64 (sumTo l a)) := by
        have := run_traj (step := impl_totalTo_l3 a l (ln l)) (fun i => (w64 (sumTo (l.take i) a), (i : Int))) (r := w64 (sumTo l a)) l.length (fun i hi => by
            simp only [impl_totalTo_l3, lt_ln hi, inb_n hi, gt_n hi, cond_true, need_true, w64_n (show (i : Int) < 9223372036854775807 by omega), sumTo_take l a i hi]
            by_cases h1 : l[i].To = a
            · rw [decide_eq_true h1, if_pos h1, cond_true, w64_w]
            · rw [decide_eq_false h1, if_neg h1, cond_false, Int.add_zero])
          (by simp only [impl_totalTo_l3, ge_ln (Nat.le_refl _), cond_false, List.take_length])
        simpa [sumTo, w64] using this
      have h2 : run (impl_TotalPaid_l5 a l (ln l)) (0, 0) = some (w64 (sumFrom l a)) := by
        have := run_traj (step := impl_TotalPaid_l5 a l (ln l)) (fun i => (w64 (sumFrom (l.take i) a), (i : Int))) (r := w64 (sumFrom l a)) l.length (fun i hi => by
            simp only [impl_TotalPaid_l5, lt_ln hi, inb_n hi, gt_n hi, cond_true, need_true, w64_n (show (i : Int) < 9223372036854775807 by omega), sumFrom_take l a i hi]
            by_cases h1 : l[i].From = a
            · rw [decide_eq_true h1, if_pos h1, cond_true, w64_w]
            · rw [decide_eq_false h1, if_neg h1, cond_false, Int.add_zero])
          (by simp only [impl_TotalPaid_l5, ge_ln (Nat.le_refl _), cond_false, List.take_length])
        simpa [sumFrom, w64] using this
      simp only [e2, h1, h2, Option.bind_some, Bool.not_true, cond_false, w64_ss]
theorem balance_eq (l : List Entry) (hl : l.length ≤ 1048576) : ∀ a, spec_Balance l a = impl_Balance l a := fun a => by
  obtain ⟨v, h1, h2⟩ := balanceB l a hl
  rw [h1, h2]
theorem isBalanced (h : House) (hs : sm_House h) : ∃ c, spec_IsBalanced h = some c ∧ impl_IsBalanced h = some c := by
  obtain ⟨_, _, _, _, _, _, hb⟩ := hs
  obtain ⟨r, a1, a2, a3⟩ := accountsOf h.Book hb
  have hl : spec_IsBalanced_l4 h r = impl_IsBalanced_l3 h r (ln r) := by
    funext ⟨v, i⟩
    simp only [spec_IsBalanced_l4, impl_IsBalanced_l3, balance_eq h.Book hb]
  obtain ⟨n, hn, _⟩ := run_inv (n := r.length) (step := impl_IsBalanced_l3 h r (ln r)) (fin := fun v => v) (fun _ _ => True)
    (fun i v hi _ => by
      obtain ⟨x, _, hx⟩ := balanceB h.Book r[i] hb
      exact ⟨_, by simp only [impl_IsBalanced_l3, lt_ln hi, inb_n hi, gt_n hi, cond_true, need_true, hx, Option.bind_some, w64_n (show (i : Int) < 9223372036854775807 by omega)]; rfl, trivial⟩)
    (fun v _ => by simp only [impl_IsBalanced_l3, ge_ln (Nat.le_refl _), cond_false]) 0 trivial
  obtain ⟨x, x1, x2⟩ := balanceB h.Book 0 hb
  refine ⟨bif decide (n = 0) then decide (0 ≤ x) else false, ?_, ?_⟩
  · unfold spec_IsBalanced
    simp only [a1, hl, hn, x1, Option.bind_some]
    cases decide (n = 0) <;> rfl
  · unfold impl_IsBalanced
    simp only [a2, hn, x2, Option.bind_some]
    cases decide (n = 0) <;> rfl
end Go.Proofs.YtlnajgoeoklioaaGreat
