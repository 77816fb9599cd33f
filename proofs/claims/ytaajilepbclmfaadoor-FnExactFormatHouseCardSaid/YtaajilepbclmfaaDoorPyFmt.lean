/- Numbers and texts: the program's answers are the reference's. No condition but the length. -/
import Derived.Test.YtaajilepbclmfaaDoorFam
import Derived.Lib.ItoaLen
namespace Go.Proofs.YtaajilepbclmfaaDoor
open Go
set_option linter.unusedVariables false
set_option linter.unusedSimpArgs false
theorem u8_wrap {n : Int} (h0 : 0 ≤ n) (h1 : n < 256) : IntKind.u8.wrap n = n := by
  unfold IntKind.wrap
  simp only [show IntKind.u8.bits = 8 from rfl, show IntKind.u8.signed = false from rfl]
  simp
  omega
theorem w64_i64 (n : Int) : i64 (w64 n) := by unfold i64 w64; omega
theorem tmod10 (x : Int) : -10 < x.tmod 10 ∧ x.tmod 10 < 10 := by
  refine ⟨?_, Int.tmod_lt_of_pos x (by omega)⟩
  have h := Int.tmod_lt_of_pos (-x) (b := 10) (by omega)
  rw [Int.neg_tmod] at h
  omega
theorem sfit_ok {x y : List UInt8} (hx : x.length ≤ 1000000000000) (hy : y.length ≤ 1000000000000) : sfit x y = true := by
  unfold sfit; exact decide_eq_true (by omega)
theorem scat_len (x y : List UInt8) : (scat x y).length = x.length + y.length := by simp [scat]
/-- One digit more. -/
theorem fmt_step (vn x : Int) (s : List UInt8) (hx : x ≠ 0) (hu : x.natAbs ≤ 9223372036854775808) (hs : s.length ≤ 100) :
    spec_FormatInt_l5 vn (s, x) = some (.inl (UInt8.ofNat (48 + x.natAbs % 10) :: s, x.tdiv 10)) := by
  obtain ⟨b1, b2⟩ := tmod10 x
  have h1 : (x.tmod 10).natAbs = x.natAbs % 10 := Int.natAbs_tmod x 10
  have h2 : (x.tdiv 10).natAbs = x.natAbs / 10 := Int.natAbs_tdiv x 10
  have ew : w64 (x.tdiv 10) = x.tdiv 10 := w64_in (by omega) (by omega)
  have ez : (!decide (x = 0)) = true := by simp [hx]
  simp only [spec_FormatInt_l5, ez, ew, cond_true]
  by_cases hn : x.tmod 10 < 0
  · have e1 : w64 (-(x.tmod 10)) = -(x.tmod 10) := w64_in (by omega) (by omega)
    have e2 : w64 (48 + -(x.tmod 10)) = 48 + -(x.tmod 10) := w64_in (by omega) (by omega)
    have e3 : (48 + -(x.tmod 10)).toNat = 48 + x.natAbs % 10 := by omega
    rw [decide_eq_true hn, cond_true, e1, e2, u8_wrap (by omega) (by omega), e3, sfit_ok (by simp) (by omega)]
    rfl
  · have e2 : w64 (48 + x.tmod 10) = 48 + x.tmod 10 := w64_in (by omega) (by omega)
    have e3 : (48 + x.tmod 10).toNat = 48 + x.natAbs % 10 := by omega
    rw [decide_eq_false hn, cond_false, e2, u8_wrap (by omega) (by omega), e3, sfit_ok (by simp) (by omega)]
    rfl
theorem fmt_run (vn : Int) : ∀ (u : Nat) (x : Int) (s : List UInt8), x.natAbs = u → 0 < u → u ≤ 9223372036854775808 → s.length + Lib.nDigits u ≤ 100 → run (spec_FormatInt_l5 vn) (s, x) = some (Lib.decDigits u ++ s) := by
  intro u
  induction u using Nat.strongRecOn with
  | _ u ih =>
    intro x s hx h0 h1 hs
    have hpos := Lib.nDigits_pos u
    have h2 : (x.tdiv 10).natAbs = x.natAbs / 10 := Int.natAbs_tdiv x 10
    rw [run_eq, fmt_step vn x s (by omega) (by omega) (by omega)]
    show run (spec_FormatInt_l5 vn) (UInt8.ofNat (48 + x.natAbs % 10) :: s, x.tdiv 10) = _
    by_cases hu : u < 10
    · have hz : x.tdiv 10 = 0 := by omega
      rw [hz, run_eq, Lib.decDigits, dif_pos hu, hx, Nat.mod_eq_of_lt hu]
      rfl
    · rw [ih (u / 10) (by omega) (x.tdiv 10) _ (by omega) (by omega) (by omega) (by
        rw [Lib.nDigits_big hu] at hs
        simp only [List.length_cons]
        omega), hx]
      conv => rhs; rw [Lib.decDigits, dif_neg hu]
      simp
theorem spec_fmt (n : Int) (h : i64 n) : spec_FormatInt n = some (Lib.itoa n) := by
  unfold i64 at h
  unfold spec_FormatInt
  by_cases h0 : n = 0
  · subst h0
    have e : Lib.itoa 0 = [48] := by
      unfold Lib.itoa
      rw [if_neg (by omega), show (0 : Int).toNat = 0 from rfl, Lib.decDigits, dif_pos (by omega)]
      rfl
    rw [e]; rfl
  · have hd := Lib.nDigits_le20 n.natAbs (by omega)
    rw [decide_eq_false h0, cond_false, fmt_run n n.natAbs n [] rfl (by omega) (by omega) (by simp only [List.length_nil]; omega), List.append_nil]
    simp only [Option.bind_some]
    by_cases hn : n < 0
    · rw [decide_eq_true hn, cond_true, sfit_ok (by simp) (by rw [Lib.decDigits_length]; omega)]
      unfold Lib.itoa
      rw [if_pos hn]; rfl
    · rw [decide_eq_false hn, cond_false]
      unfold Lib.itoa
      rw [if_neg hn, show n.natAbs = n.toNat by omega]
theorem impl_fmt (n : Int) (h : i64 n) : impl_FormatInt n = some (Lib.itoa n) := by
  unfold i64 at h
  unfold impl_FormatInt strconv_Itoa
  rw [decide_eq_true h.1, decide_eq_true h.2]; rfl
theorem itoa_len (n : Int) (h : i64 n) : (Lib.itoa n).length ≤ 21 := Lib.itoa_length_le n h.1 h.2
/-- Texts with spaces between them. -/
def short (L : List (List UInt8)) : Prop := L.length ≤ 1048576 ∧ ∀ x ∈ L, x.length ≤ 200
theorem joinTail_len (sep : List UInt8) (hsep : sep.length = 1) : ∀ (L : List (List UInt8)), (∀ x ∈ L, x.length ≤ 200) → (Lib.joinTail sep L).length ≤ L.length * 201
  | [], _ => by simp [Lib.joinTail]
  | x :: L, h => by
    have h1 := joinTail_len sep hsep L fun y hy => h y (by simp [hy])
    have h2 := h x (by simp)
    have e : Lib.joinTail sep (x :: L) = sep ++ x ++ Lib.joinTail sep L := by simp [Lib.joinTail]
    rw [e]
    simp only [List.length_append, List.length_cons, hsep]
    omega
theorem join_len (sep : List UInt8) (hsep : sep.length = 1) : ∀ (L : List (List UInt8)), (∀ x ∈ L, x.length ≤ 200) → (Lib.join L sep).length ≤ L.length * 201
  | [], _ => by rw [Lib.join_nil]; simp
  | x :: L, h => by
    rw [Lib.join_cons]
    have h1 := joinTail_len sep hsep L fun y hy => h y (by simp [hy])
    have h2 := h x (by simp)
    simp only [List.length_append, List.length_cons]
    omega
theorem join_succ (sep : List UInt8) (L : List (List UInt8)) (i : Nat) (h : i + 1 < L.length) : Lib.join (L.take (i + 1 + 1)) sep = Lib.join (L.take (i + 1)) sep ++ sep ++ L[i + 1] := by
  cases L with
  | nil => simp at h
  | cons x r =>
    have hr : i < r.length := by simpa using h
    rw [List.take_succ_cons, List.take_succ_cons, Lib.join_cons, Lib.join_cons, Lib.joinTail_take_succ sep r i r[i] (List.getElem?_eq_getElem hr)]
    simp [List.append_assoc]
theorem take_short {L : List (List UInt8)} (h : ∀ x ∈ L, x.length ≤ 200) (i : Nat) : ∀ x ∈ L.take i, x.length ≤ 200 := fun x hx => h x (List.mem_of_mem_take hx)
theorem run_join (L : List (List UInt8)) (hL : short L) {step : List UInt8 × Int → Option ((List UInt8 × Int) ⊕ List UInt8)}
    (h1 : ∀ (i : Nat) (s : List UInt8) (h : i < L.length), s.length ≤ 300000000 → step (s, (i : Int)) = some (.inl (if 0 < i then scat (scat s [32]) L[i] else scat s L[i], ((i + 1 : Nat) : Int)))) (h2 : ∀ s, step (s, (L.length : Int)) = some (.inr s)) :
    run step ([], 0) = some (Lib.join L [32]) := by
  obtain ⟨hl, hx⟩ := hL
  have := run_traj (step := step) (fun i => (Lib.join (L.take i) [32], (i : Int))) (r := Lib.join L [32]) L.length (fun i hi => by
    have hb := join_len [32] rfl (L.take i) (take_short hx i)
    have ht : (L.take i).length = i := by simp; omega
    rw [ht] at hb
    rw [h1 i _ hi (by omega)]
    cases i with
    | zero =>
      rw [if_neg (by omega)]
      congr 3
      rw [List.take_zero, Lib.join_nil, List.take_succ_eq_append_getElem hi, List.take_zero]
      simp [scat, Lib.join_one]
    | succ i =>
      rw [if_pos (by omega), join_succ [32] L i hi]
      rfl) (by rw [h2, List.take_length])
  simpa [Lib.join_nil] using this
def joinedT (L : List (List UInt8)) : List UInt8 := if L = [] then [45] else Lib.join L [32]
theorem spec_join (L : List (List UInt8)) (hL : short L) : spec_l39Join L = some (joinedT L) := by
  have hr := run_join L hL (step := spec_l39Join_l3 L) (fun i s hi hs => by
      have hx := hL.2 L[i] (List.getElem_mem hi)
      have hl := hL.1
      simp only [spec_l39Join_l3, lt_ln hi, inb_n hi, gt_n hi, w64_n (show (i : Int) < 9223372036854775807 by omega), cond_true, need_true]
      by_cases h0 : 0 < i
      · have e2 : (scat s [32]).length ≤ 1000000000000 := by rw [scat_len]; simp only [List.length_cons, List.length_nil]; omega
        rw [decide_eq_true (show (0 : Int) < i by omega), cond_true, sfit_ok (x := s) (y := [32]) (by omega) (by simp), sfit_ok (x := scat s [32]) (y := L[i]) e2 (by omega), if_pos h0]
        rfl
      · rw [decide_eq_false (show ¬ (0 : Int) < i by omega), cond_false, sfit_ok (x := s) (y := L[i]) (by omega) (by omega), if_neg h0]
        rfl)
    (fun s => by simp only [spec_l39Join_l3, ge_ln (Nat.le_refl _), cond_false])
  unfold spec_l39Join joinedT
  rw [hr]
  cases L with
  | nil => rfl
  | cons x L =>
    rw [if_neg (by simp)]
    simp only [Option.bind_some, show decide (ln (x :: L) = 0) = false from decide_eq_false (by rw [ln_eq]; simp; omega), cond_false]
theorem strs_join (L : List (List UInt8)) (hL : short L) : strings_Join L [32] = some (Lib.join L [32]) := by
  have hb := join_len [32] rfl L hL.2
  have hl := hL.1
  unfold strings_Join
  rw [decide_eq_true (by omega), decide_eq_true (by omega)]; rfl
theorem impl_join (L : List (List UInt8)) (hL : short L) : impl_joined L = some (joinedT L) := by
  unfold impl_joined joinedT
  cases L with
  | nil => rfl
  | cons x L =>
    rw [if_neg (by simp), strs_join _ hL]
    simp only [Option.bind_some, show decide (ln (x :: L) = 0) = false from decide_eq_false (by rw [ln_eq]; simp; omega), cond_false]
theorem run_map_texts {α : Type} (l : List α) (f : α → List UInt8) {step : List (List UInt8) × Int → Option ((List (List UInt8) × Int) ⊕ List (List UInt8))}
    (h1 : ∀ (i : Nat) (out : List (List UInt8)) (h : i < l.length), out.length ≤ i → step (out, (i : Int)) = some (.inl (out ++ [f l[i]], ((i + 1 : Nat) : Int)))) (h2 : ∀ out, step (out, (l.length : Int)) = some (.inr out)) :
    run step ([], 0) = some (l.map f) := by
  have := run_filter l (fun _ => true) f (step := step) (fun i out h ho => by rw [h1 i out h ho]; rfl) h2
  rw [this, List.filter_eq_self.2 (fun _ _ => rfl)]
theorem short_map {α : Type} {l : List α} {f : α → List UInt8} (hl : l.length ≤ 1048576) (h : ∀ x ∈ l, (f x).length ≤ 200) : short (l.map f) := by
  refine ⟨by rw [List.length_map]; exact hl, fun y hy => ?_⟩
  obtain ⟨x, hx, rfl⟩ := List.mem_map.1 hy
  exact h x hx
/-- Numbers. -/
theorem formatNumbers (l : List Int) (hl : l.length ≤ 1048576) (hx : ∀ x ∈ l, i64 x) : ∃ r, spec_FormatNumbers l = some r ∧ impl_FormatNumbers l = some r := by
  have hsh : short (l.map Lib.itoa) := short_map hl fun x h => Nat.le_trans (itoa_len x (hx x h)) (by omega)
  have hs := run_map_texts l Lib.itoa (step := spec_FormatNumbers_l3 l) (fun i out hi ho => by
      simp only [spec_FormatNumbers_l3, lt_ln hi, inb_n hi, gt_n hi, w64_n (show (i : Int) < 9223372036854775807 by omega), rm_ok (show out.length + 1 ≤ 2000000 by omega) (show 16 ≤ 1024 by omega), cond_true, need_true, spec_fmt _ (hx _ (List.getElem_mem hi)), Option.bind_some])
    (fun out => by simp only [spec_FormatNumbers_l3, ge_ln (Nat.le_refl _), cond_false])
  have hi := run_map_texts l Lib.itoa (step := impl_FormatNumbers_l3 l (ln l)) (fun i out hi ho => by
      simp only [impl_FormatNumbers_l3, lt_ln hi, inb_n hi, gt_n hi, w64_n (show (i : Int) < 9223372036854775807 by omega), rm_ok (show out.length + 1 ≤ 2000000 by omega) (show 16 ≤ 1024 by omega), cond_true, need_true, impl_fmt _ (hx _ (List.getElem_mem hi)), Option.bind_some])
    (fun out => by simp only [impl_FormatNumbers_l3, ge_ln (Nat.le_refl _), cond_false])
  refine ⟨joinedT (l.map Lib.itoa), ?_, ?_⟩
  · unfold spec_FormatNumbers; rw [hs]; simp only [Option.bind_some, spec_join _ hsh]
  · unfold impl_FormatNumbers; rw [hi]; simp only [Option.bind_some, impl_join _ hsh]
theorem formatHouse (h : House) (h1 : i64 h.No) (h2 : i64 h.Now) (h3 : h.Finds.length ≤ 1048576) (h4 : h.Claims.length ≤ 1048576) (h5 : h.Chain.length ≤ 1048576) (h6 : h.Book.length ≤ 1048576) : ∃ r, spec_FormatHouse h = some r ∧ impl_FormatHouse h = some r := by
  have hlen : ∀ {α : Type} (l : List α), l.length ≤ 1048576 → i64 (ln l) := fun l hl => by unfold i64; rw [ln_eq]; omega
  obtain ⟨r, r1, r2⟩ := formatNumbers [h.No, h.Now, ln h.Finds, ln h.Claims, ln h.Chain, ln h.Book] (by simp) (by
    intro x hx
    simp only [List.mem_cons, List.not_mem_nil, or_false] at hx
    rcases hx with rfl | rfl | rfl | rfl | rfl | rfl
    · exact h1
    · exact h2
    · exact hlen _ h3
    · exact hlen _ h4
    · exact hlen _ h5
    · exact hlen _ h6)
  exact ⟨r, by unfold spec_FormatHouse; rw [r1]; rfl, by unfold impl_FormatHouse; rw [r2]; rfl⟩
/-- Hits. -/
def hitT (x : Hit) : List UInt8 := scat (scat (Lib.itoa x.House) [47]) (Lib.itoa x.Thing)
theorem formatHits (l : List Hit) (hl : l.length ≤ 1048576) (hx : ∀ x ∈ l, i64 x.House ∧ i64 x.Thing) : ∃ r, spec_FormatHits l = some r ∧ impl_FormatHits l = some r := by
  have hsh : short (l.map hitT) := short_map hl fun x h => by
    have a := itoa_len _ (hx x h).1; have b := itoa_len _ (hx x h).2
    unfold hitT; simp only [scat_len, List.length_cons, List.length_nil]; omega
  have hs := run_map_texts l hitT (step := spec_FormatHits_l3 l) (fun i out hi ho => by
      have hm := hx _ (List.getElem_mem hi)
      have a := itoa_len _ hm.1; have b := itoa_len _ hm.2
      simp only [spec_FormatHits_l3, lt_ln hi, inb_n hi, gt_n hi, w64_n (show (i : Int) < 9223372036854775807 by omega), rm_ok (show out.length + 1 ≤ 2000000 by omega) (show 16 ≤ 1024 by omega), cond_true, need_true, spec_fmt _ hm.1, spec_fmt _ hm.2, Option.bind_some,
        sfit_ok (x := Lib.itoa l[i].House) (y := [47]) (by omega) (by simp), sfit_ok (x := scat (Lib.itoa l[i].House) [47]) (y := Lib.itoa l[i].Thing) (by rw [scat_len]; simp only [List.length_cons, List.length_nil]; omega) (by omega)]
      rfl)
    (fun out => by simp only [spec_FormatHits_l3, ge_ln (Nat.le_refl _), cond_false])
  have hi := run_map_texts l hitT (step := impl_FormatHits_l3 l (ln l)) (fun i out hi ho => by
      have hm := hx _ (List.getElem_mem hi)
      have a := itoa_len _ hm.1; have b := itoa_len _ hm.2
      simp only [impl_FormatHits_l3, lt_ln hi, inb_n hi, gt_n hi, w64_n (show (i : Int) < 9223372036854775807 by omega), rm_ok (show out.length + 1 ≤ 2000000 by omega) (show 16 ≤ 1024 by omega), cond_true, need_true, impl_fmt _ hm.1, impl_fmt _ hm.2, Option.bind_some,
        sfit_ok (x := Lib.itoa l[i].House) (y := [47]) (by omega) (by simp), sfit_ok (x := scat (Lib.itoa l[i].House) [47]) (y := Lib.itoa l[i].Thing) (by rw [scat_len]; simp only [List.length_cons, List.length_nil]; omega) (by omega)]
      rfl)
    (fun out => by simp only [impl_FormatHits_l3, ge_ln (Nat.le_refl _), cond_false])
  refine ⟨joinedT (l.map hitT), ?_, ?_⟩
  · unfold spec_FormatHits; rw [hs]; simp only [Option.bind_some, spec_join _ hsh]
  · unfold impl_FormatHits; rw [hi]; simp only [Option.bind_some, impl_join _ hsh]
/-- Cents. -/
theorem formatCents (c : Int) : ∃ r, spec_FormatCents c = some r ∧ impl_FormatCents c = some r := by
  have big : ∀ {x : List UInt8}, x.length ≤ 100 → ∀ {y : List UInt8}, y.length ≤ 100 → sfit x y = true := fun hx _ hy => sfit_ok (by omega) (by omega)
  have hm : ∀ n : Int, i64 (n.tmod 10) := fun n => by have := tmod10 n; unfold i64; omega
  have hw := w64_i64
  have tail : ∀ (s : List UInt8) (a b d : Int), s.length ≤ 1 → i64 a → i64 b → i64 d → ∃ r,
      ((spec_FormatInt a).bind fun r2 => nd (sfit s r2) <| nd (sfit (scat s r2) [46]) <| (spec_FormatInt b).bind fun r3 => nd (sfit (scat (scat s r2) [46]) r3) <| (spec_FormatInt d).bind fun r4 => nd (sfit (scat (scat (scat s r2) [46]) r3) r4) <| some (scat (scat (scat (scat s r2) [46]) r3) r4)) = some r ∧
      ((impl_FormatInt a).bind fun r2 => nd (sfit s r2) <| nd (sfit (scat s r2) [46]) <| (impl_FormatInt b).bind fun r3 => nd (sfit (scat (scat s r2) [46]) r3) <| (impl_FormatInt d).bind fun r4 => nd (sfit (scat (scat (scat s r2) [46]) r3) r4) <| some (scat (scat (scat (scat s r2) [46]) r3) r4)) = some r := by
    intro s a b d hs ha hb hd
    have la := itoa_len a ha; have lb := itoa_len b hb; have ld := itoa_len d hd
    have l2 : (scat s (Lib.itoa a)).length ≤ 22 := by rw [scat_len]; omega
    have l3 : (scat (scat s (Lib.itoa a)) [46]).length ≤ 23 := by rw [scat_len]; simp only [List.length_cons, List.length_nil]; omega
    have l4 : (scat (scat (scat s (Lib.itoa a)) [46]) (Lib.itoa b)).length ≤ 44 := by rw [scat_len]; omega
    simp only [spec_fmt a ha, spec_fmt b hb, spec_fmt d hd, impl_fmt a ha, impl_fmt b hb, impl_fmt d hd, Option.bind_some, big (show s.length ≤ 100 by omega) (show (Lib.itoa a).length ≤ 100 by omega),
      big (show (scat s (Lib.itoa a)).length ≤ 100 by omega) (show ([46] : List UInt8).length ≤ 100 by simp), big (show (scat (scat s (Lib.itoa a)) [46]).length ≤ 100 by omega) (show (Lib.itoa b).length ≤ 100 by omega),
      big (show (scat (scat (scat s (Lib.itoa a)) [46]) (Lib.itoa b)).length ≤ 100 by omega) (show (Lib.itoa d).length ≤ 100 by omega), need_true]
    exact ⟨_, rfl, rfl⟩
  unfold spec_FormatCents impl_FormatCents spec_l1In impl_InRange
  simp only [Option.bind_some]
  cases (decide (-1000000000 ≤ c) && decide (c ≤ 1000000000)) with
  | false => exact ⟨[], rfl, rfl⟩
  | true =>
    simp only [Bool.not_true, cond_false]
    cases decide (c < 0) with
    | true => exact tail [45] _ _ _ (by simp) (hw _) (hm _) (hm _)
    | false => exact tail [] _ _ _ (by simp) (hw _) (hm _) (hm _)
end Go.Proofs.YtaajilepbclmfaaDoor
