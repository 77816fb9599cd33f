/- Hours of stay: the program's answer is the reference's. No condition but the length. -/
import Derived.Test.YtaajilepbclmfaaPyChain
namespace Go.Proofs.Ytaajilepbclmfaa
open Go
set_option linter.unusedVariables false
set_option linter.unusedSimpArgs false
/-- The hands of a thing. -/
theorem handsOfB (l : List Hand) (t : Int) (h : l.length ≤ 1048576) : spec_HandsOf l t = some (l.filter fun x => decide (x.Thing = t)) ∧ impl_HandsOf l t = some (l.filter fun x => decide (x.Thing = t)) := by
  have hr := run_filter l (fun x => decide (x.Thing = t)) (fun x => x) (step := spec_HandsOf_l3 l t) (fun i out hi ho => by
      simp only [spec_HandsOf_l3, lt_ln hi, inb_n hi, gt_n hi, w64_n (show (i : Int) < 9223372036854775807 by omega), rm_ok (show out.length + 1 ≤ 2000000 by omega) (show 40 ≤ 1024 by omega), cond_true, need_true]
      cases decide (l[i].Thing = t) <;> rfl)
    (fun out => by simp only [spec_HandsOf_l3, ge_ln (Nat.le_refl _), cond_false])
  rw [List.map_id'] at hr
  exact ⟨by unfold spec_HandsOf; rw [hr]; rfl, by unfold impl_HandsOf; rw [show impl_HandsOf_l3 t l (ln l) = spec_HandsOf_l3 l t from rfl, hr]; rfl⟩
theorem chain_sorted (l : List Hand) (h : ∀ k (h : k < l.length), 0 ≤ l[k].At ∧ l[k].At ≤ 100000 ∧ ∀ (h' : 0 < k), (l[k - 1]'(by omega)).At ≤ l[k].At) : l.Pairwise (fun x y => x.At ≤ y.At) := by
  have key : ∀ (d i : Nat) (hj : i + d < l.length), (l[i]'(by omega)).At ≤ l[i + d].At := by
    intro d
    induction d with
    | zero => intro i hj; exact Int.le_refl _
    | succ d ih =>
      intro i hj
      have h1 := ih i (by omega)
      have h2 := (h (i + (d + 1)) hj).2.2 (by omega)
      have e : (l[i + (d + 1) - 1]'(by omega)) = l[i + d] := by congr 1
      rw [e] at h2
      omega
  rw [List.pairwise_iff_getElem]
  intro i j hi hj hij
  have := key (j - i) i (by omega)
  have e : (l[i + (j - i)]'(by omega)) = l[j] := by congr 1; omega
  rw [e] at this
  exact this
/-- The next count. -/
theorem stay_step (l m : List Hand) (now : Int) (hc : spec_IsChain l = some true) (hn0 : 0 ≤ now) (hn1 : now ≤ 100000) (hm : m.length ≤ 100) (hb : ∀ x ∈ m, 0 ≤ x.At ∧ x.At ≤ 100000) (hs : m.Pairwise (fun x y => x.At ≤ y.At))
    (k : Nat) (n : Int) (hk : k < m.length) (h0 : 0 ≤ n) (h1 : n ≤ (k : Int) * 100000) :
    ∃ n', spec_StayHours_l4 l now m (n, (k : Int)) = some (.inl (n', ((k + 1 : Nat) : Int))) ∧ impl_StayHours_l6 now m (ln m) (n, (k : Int)) = some (.inl (n', ((k + 1 : Nat) : Int))) ∧ 0 ≤ n' ∧ n' ≤ ((k + 1 : Nat) : Int) * 100000 := by
  have hx := hb m[k] (List.getElem_mem hk)
  simp only [spec_StayHours_l4, impl_StayHours_l6, lt_ln hk, inb_n hk, gt_n hk, hc, spec_l1In, Option.bind_some, cond_true, need_true, w64_n (show (k : Int) < 9223372036854775807 by omega), decide_eq_true hn0, decide_eq_true hn1, Bool.and_self]
  have mx : ∀ d : Int, spec_Max 0 d = some (if 0 < d then d else 0) := fun d => by
    unfold spec_Max
    by_cases hd : 0 < d
    · rw [decide_eq_true hd, if_pos hd]; rfl
    · rw [decide_eq_false hd, if_neg hd]; rfl
  have mn : ∀ d : Int, spec_Min now d = some (if d < now then d else now) := fun d => by
    unfold spec_Min
    by_cases hd : d < now
    · rw [decide_eq_true hd, if_pos hd]; rfl
    · rw [decide_eq_false hd, if_neg hd]; rfl
  have main : ∀ u : Int, 0 ≤ u → u ≤ 100000 → u ≤ now → (m[k].At ≤ now → m[k].At ≤ u) →
      ∃ n', (bif decide (m[k].Holder = 2) then (spec_Max 0 (w64 (u - m[k].At))).bind fun r4 => some (.inl (w64 (n + r4), ((k + 1 : Nat) : Int))) else some (.inl (n, ((k + 1 : Nat) : Int))) : Option ((Int × Int) ⊕ Int)) = some (.inl (n', ((k + 1 : Nat) : Int))) ∧
        (bif !decide (m[k].Holder = 2) || decide (now < m[k].At) then some (.inl (n, ((k + 1 : Nat) : Int))) else some (.inl (w64 (n + w64 (u - m[k].At)), ((k + 1 : Nat) : Int))) : Option ((Int × Int) ⊕ Int)) = some (.inl (n', ((k + 1 : Nat) : Int))) ∧ 0 ≤ n' ∧ n' ≤ ((k + 1 : Nat) : Int) * 100000 := by
    intro u u0 u1 u2 u3
    have ew : w64 (u - m[k].At) = u - m[k].At := w64_in (by omega) (by omega)
    rw [mx, ew]
    cases hh : decide (m[k].Holder = 2) with
    | false => exact ⟨n, rfl, rfl, h0, by omega⟩
    | true =>
      by_cases hnow : now < m[k].At
      · rw [decide_eq_true hnow, if_neg (by omega)]
        refine ⟨n, ?_, rfl, h0, by omega⟩
        simp only [cond_true, Option.bind_some]
        rw [w64_in (by omega) (by omega)]; simp
      · have h5 := u3 (by omega)
        rw [decide_eq_false hnow]
        have e : (if 0 < u - m[k].At then u - m[k].At else 0) = u - m[k].At := by split <;> omega
        rw [e]
        refine ⟨n + (u - m[k].At), ?_, ?_, by omega, by omega⟩
        · simp only [cond_true, Option.bind_some]; rw [w64_in (by omega) (by omega)]
        · simp only [Bool.not_true, Bool.or_false, cond_false]; rw [w64_in (by omega) (by omega)]
  by_cases hlast : k + 1 < m.length
  · have hy := hb m[k + 1] (List.getElem_mem hlast)
    have hxy : m[k].At ≤ m[k + 1].At := List.pairwise_iff_getElem.1 hs k (k + 1) hk hlast (by omega)
    simp only [lt_ln hlast, inb_n hlast, gt_n hlast, mn, cond_true, need_true, Option.bind_some]
    exact main (if m[k + 1].At < now then m[k + 1].At else now) (by split <;> omega) (by split <;> omega) (by split <;> omega) (fun _ => by split <;> omega)
  · simp only [ge_ln (show m.length ≤ k + 1 by omega), cond_false]
    exact main now hn0 hn1 (Int.le_refl _) (fun h => h)
theorem stayHours (l : List Hand) (t now : Int) (h : l.length ≤ 1048576) : ∃ c, spec_StayHours l t now = some c ∧ impl_StayHours l t now = some c := by
  obtain ⟨e1, e2⟩ := handsOfB l t h
  obtain ⟨b, b1, b2, b3⟩ := isChain l
  have zero : ∀ m : List Hand, (b = false ∨ ¬ (0 ≤ now ∧ now ≤ 100000)) → run (spec_StayHours_l4 l now m) (0, 0) = some 0 := by
    intro m hno
    rw [run_eq]
    have hb : (decide (0 ≤ now) && decide (now ≤ 100000)) = true → b = false := by
      intro hd
      simp only [Bool.and_eq_true, decide_eq_true_eq] at hd
      rcases hno with hno | hno
      · exact hno
      · exact absurd hd hno
    simp only [spec_StayHours_l4, b1, Option.bind_some, spec_l1In]
    cases decide (0 < ln m) with
    | false => rfl
    | true =>
      cases b with
      | false => rfl
      | true =>
        cases hd : (decide (0 ≤ now) && decide (now ≤ 100000)) with
        | false => rfl
        | true => cases hb hd
  by_cases hg : b = true ∧ 0 ≤ now ∧ now ≤ 100000
  · obtain ⟨rfl, hn0, hn1⟩ := hg
    obtain ⟨hl, hall⟩ := b3 rfl
    have hs := chain_sorted l hall
    have hb : ∀ x ∈ l, 0 ≤ x.At ∧ x.At ≤ 100000 := by
      intro x hx
      obtain ⟨k, hk, rfl⟩ := List.getElem_of_mem hx
      exact ⟨(hall k hk).1, (hall k hk).2.1⟩
    have hm : (l.filter fun x => decide (x.Thing = t)).length ≤ 100 := Nat.le_trans (List.length_filter_le _ _) hl
    have hbm : ∀ x ∈ l.filter (fun x => decide (x.Thing = t)), 0 ≤ x.At ∧ x.At ≤ 100000 := fun x hx => hb x (List.mem_filter.1 hx).1
    have hsm : (l.filter fun x => decide (x.Thing = t)).Pairwise (fun x y => x.At ≤ y.At) := hs.filter _
    generalize l.filter (fun x => decide (x.Thing = t)) = m at e1 e2 hm hbm hsm
    have key : ∀ (d k : Nat) (n : Int), k + d = m.length → 0 ≤ n → n ≤ (k : Int) * 100000 → ∃ c, run (spec_StayHours_l4 l now m) (n, (k : Int)) = some c ∧ run (impl_StayHours_l6 now m (ln m)) (n, (k : Int)) = some c := by
      intro d
      induction d with
      | zero =>
        intro k n hk h0 h1
        have : k = m.length := by omega
        subst this
        refine ⟨n, ?_, ?_⟩
        · rw [run_eq]; simp only [spec_StayHours_l4, ge_ln (Nat.le_refl _), cond_false, Option.bind_some]
        · rw [run_eq]; simp only [impl_StayHours_l6, ge_ln (Nat.le_refl _), cond_false, Option.bind_some]
      | succ d ih =>
        intro k n hk h0 h1
        obtain ⟨n', s1, s2, s3, s4⟩ := stay_step l m now b1 hn0 hn1 hm hbm hsm k n (by omega) h0 h1
        rw [run_eq, s1, run_eq (impl_StayHours_l6 now m (ln m)), s2]
        exact ih (k + 1) n' (by omega) s3 s4
    obtain ⟨c, c1, c2⟩ := key m.length 0 0 (by omega) (Int.le_refl _) (by simp)
    refine ⟨c, ?_, ?_⟩
    · unfold spec_StayHours
      rw [e1]
      simp only [Option.bind_some]
      exact (congrArg (fun o => o.bind fun b => some b) c1).trans rfl
    · unfold impl_StayHours impl_InRange
      rw [b2, e2]
      simp only [Option.bind_some, Bool.not_true, cond_false, decide_eq_true hn0, decide_eq_true hn1, Bool.and_self]
      exact (congrArg (fun o => o.bind fun b => some b) c2).trans rfl
  · have hno : b = false ∨ ¬ (0 ≤ now ∧ now ≤ 100000) := by
      cases b with
      | false => exact .inl rfl
      | true => exact .inr fun h => hg ⟨rfl, h⟩
    refine ⟨0, ?_, ?_⟩
    · unfold spec_StayHours
      rw [e1]
      simp only [Option.bind_some]
      rw [zero _ hno]; rfl
    · unfold impl_StayHours impl_InRange
      rw [b2]
      cases b with
      | false => rfl
      | true =>
        have hd : (decide (0 ≤ now) && decide (now ≤ 100000)) = false := by
          rcases hno with hno | hno
          · cases hno
          · rw [Bool.eq_false_iff]; intro hd; simp only [Bool.and_eq_true, decide_eq_true_eq] at hd; exact hno hd
        simp only [Option.bind_some, Bool.not_true, cond_false, hd, Bool.not_false, cond_true]
end Go.Proofs.Ytaajilepbclmfaa
