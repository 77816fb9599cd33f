/- Plain laws of the typed functions. No condition. -/
import Derived.Test.YtidclodlpdccaaaDoorFn
import Derived.Test.YtidclodlpdccaaaDoorPl
import Derived.Test.YtidclodlpdccaaaDoorFam
import Derived.Lib.ItoaLen
/- The cursor of the draws: it never fails, and what it draws lies in its bounds. No condition but the length. -/
namespace Go.Proofs.YtidclodlpdccaaaDoor
open Go
set_option linter.unusedVariables false
set_option linter.unusedSimpArgs false
theorem w64_rng (n : Int) : i64 (w64 n) := by unfold i64 w64; omega
theorem bit_and_small (a : Int) (m : Nat) (hm : m < 9223372036854775808) : ∃ x, bitI .and .i64 a (m : Int) = x ∧ 0 ≤ x ∧ x ≤ (m : Int) := by
  refine ⟨_, rfl, ?_⟩
  have e : ((m : Int) % 2 ^ IntKind.i64.bits).toNat = m := by
    rw [show ((2 : Int) ^ IntKind.i64.bits) = 18446744073709551616 from rfl]; omega
  have h := @Nat.and_le_right (a % 2 ^ IntKind.i64.bits).toNat m
  unfold bitI
  simp only [e, w64_eq]
  rw [w64_in (by omega) (by omega)]
  omega
/-- What the cursor is, all along. -/
def okC (c : l1Cur) : Prop := c.b.length ≤ 1048576 ∧ 0 ≤ c.i ∧ c.i ≤ c.b.length
theorem l1New_ok (l : List Int) (hl : l.length ≤ 1048576) : ∃ c, spec_l1New l = some c ∧ okC c := by
  have key : ∀ (m k : Nat) (a : Int), k + m = l.length → ∃ r, run (spec_l1New_l3 l) (a, (k : Int)) = some r := by
    intro m
    induction m with
    | zero =>
      intro k a hk
      have : k = l.length := by omega
      subst this
      exact ⟨a, by rw [run_eq]; simp only [spec_l1New_l3, ge_ln (Nat.le_refl _), Bool.false_and, cond_false, Option.bind_some]⟩
    | succ m ih =>
      intro k a hk
      have hlt : k < l.length := by omega
      cases h4 : decide ((k : Int) < 4000) with
      | false => exact ⟨a, by rw [run_eq]; simp only [spec_l1New_l3, h4, Bool.and_false, cond_false, Option.bind_some]⟩
      | true =>
        obtain ⟨r, hr⟩ := ih (k + 1) (bitI .and .i64 (w64 (w64 (w64 (a * 137) + w64 (gt l (k : Int))) + 11)) 1073741823) (by omega)
        exact ⟨r, by rw [run_eq]; simp only [spec_l1New_l3, lt_ln hlt, h4, Bool.and_self, inb_n hlt, cond_true, need_true, w64_n (show (k : Int) < 9223372036854775807 by omega), Option.bind_some]; exact hr⟩
  obtain ⟨r, hr⟩ := key l.length 0 (w64 (193017 + ln l)) (by omega)
  refine ⟨⟨l, 0, r⟩, ?_, hl, Int.le_refl _, by simp only; omega⟩
  unfold spec_l1New
  rw [show run (spec_l1New_l3 l) (w64 (193017 + ln l), 0) = some r from hr]; rfl
theorem bit255 (a : Int) : 0 ≤ bitI .and .i64 a 255 ∧ bitI .and .i64 a 255 ≤ 255 := by
  obtain ⟨x, e, h0, h1⟩ := bit_and_small a 255 (by omega)
  rw [show ((255 : Nat) : Int) = 255 from rfl] at e h1
  rw [e]; exact ⟨h0, h1⟩
theorem l1Byte_ok (c : l1Cur) (h : okC c) : ∃ c' x, spec_l1Byte c = some (c', x) ∧ okC c' ∧ 0 ≤ x ∧ x ≤ 255 := by
  obtain ⟨h1, h2, h3⟩ := h
  unfold spec_l1Byte
  by_cases hi : c.i < ln c.b
  · have hb : inb c.b c.i = true := by rw [inb_iff]; rw [ln_eq] at hi; omega
    rw [ln_eq] at hi
    rw [decide_eq_true (show c.i < ln c.b from hi), hb]
    have e : w64 (c.i + 1) = c.i + 1 := w64_in (by omega) (by omega)
    refine ⟨_, _, rfl, ⟨h1, ?_, ?_⟩, (bit255 _).1, (bit255 _).2⟩
    · show 0 ≤ w64 (c.i + 1)
      omega
    · show w64 (c.i + 1) ≤ (c.b.length : Int)
      omega
  · rw [decide_eq_false hi]
    exact ⟨_, _, rfl, ⟨h1, h2, h3⟩, (bit255 _).1, (bit255 _).2⟩
theorem tmod_in {x n : Int} (hx : 0 ≤ x) (hn : 0 < n) : 0 ≤ x.tmod n ∧ x.tmod n < n := ⟨Int.tmod_nonneg _ hx, Int.tmod_lt_of_pos x hn⟩
theorem l1Below_ok (c : l1Cur) (n : Int) (h : okC c) : ∃ c' x, spec_l1Below c n = some (c', x) ∧ okC c' ∧ 0 ≤ x ∧ (0 < n → x < n) := by
  unfold spec_l1Below
  by_cases h0 : n ≤ 0
  · rw [decide_eq_true h0]; exact ⟨c, 0, rfl, h, Int.le_refl _, fun hn => by omega⟩
  · have hz : (!decide (n = 0)) = true := by simp; omega
    rw [decide_eq_false h0, hz]
    by_cases h1 : n ≤ 256
    · rw [decide_eq_true h1]
      obtain ⟨c1, x1, e1, k1, l1, u1⟩ := l1Byte_ok c h
      have := tmod_in l1 (show 0 < n by omega)
      exact ⟨c1, x1.tmod n, by simp only [e1, cond_false, cond_true, Option.bind_some, need_true], k1, this.1, fun _ => this.2⟩
    · rw [decide_eq_false h1]
      obtain ⟨c1, x1, e1, k1, l1, u1⟩ := l1Byte_ok c h
      obtain ⟨c2, x2, e2, k2, l2, u2⟩ := l1Byte_ok c1 k1
      obtain ⟨c3, x3, e3, k3, l3, u3⟩ := l1Byte_ok c2 k2
      have e4 : w64 (w64 (w64 (x1 * 65536) + w64 (x2 * 256)) + x3) = x1 * 65536 + x2 * 256 + x3 := by
        rw [w64_in (n := x1 * 65536) (by omega) (by omega), w64_in (n := x2 * 256) (by omega) (by omega), w64_in (n := x1 * 65536 + x2 * 256) (by omega) (by omega), w64_in (by omega) (by omega)]
      have := tmod_in (show 0 ≤ x1 * 65536 + x2 * 256 + x3 by omega) (show 0 < n by omega)
      exact ⟨c3, (x1 * 65536 + x2 * 256 + x3).tmod n, by simp only [e1, e2, e3, e4, cond_false, Option.bind_some, need_true], k3, this.1, fun _ => this.2⟩
theorem l1Int_ok (c : l1Cur) (l : List Int) (h : okC c) (hl : 0 < l.length) : ∃ c' x, spec_l1Int_o1 c l = some (c', x) ∧ okC c' ∧ x ∈ l := by
  obtain ⟨c1, x1, e1, k1, l1, u1⟩ := l1Below_ok c (ln l) h
  have hlt := u1 (by rw [ln_eq]; omega)
  rw [ln_eq] at hlt
  obtain ⟨k, rfl⟩ : ∃ k : Nat, x1 = (k : Int) := ⟨x1.toNat, by omega⟩
  have hi : k < l.length := by omega
  refine ⟨c1, l[k], ?_, k1, List.getElem_mem hi⟩
  unfold spec_l1Int_o1
  rw [e1]
  simp only [Option.bind_some, inb_n hi, gt_n hi, need_true]
end Go.Proofs.YtidclodlpdccaaaDoor

/- Chains of hands: the program's answers are the reference's. No condition but the length. -/
namespace Go.Proofs.YtidclodlpdccaaaDoor
open Go
set_option linter.unusedVariables false
set_option linter.unusedSimpArgs false
theorem tmod_bounds (v : Int) {m : Int} (hm : 0 < m) : -m < v.tmod m ∧ v.tmod m < m := by
  refine ⟨?_, Int.tmod_lt_of_pos v hm⟩
  have h := Int.tmod_lt_of_pos (-v) hm
  rw [Int.neg_tmod] at h
  omega
theorem mod_eq (v : Int) : spec_Mod v 2147483647 = impl_Mod v 2147483647 := by
  obtain ⟨h1, h2⟩ := tmod_bounds v (m := 2147483647) (by omega)
  unfold spec_Mod impl_Mod spec_l1In impl_InRange
  simp only [Option.bind_some, show (decide ((1 : Int) ≤ 2147483647) && decide ((2147483647 : Int) ≤ 1000000000000)) = true from rfl, Bool.not_true, cond_false, show (!decide ((2147483647 : Int) = 0)) = true from rfl, need_true]
  generalize v.tmod 2147483647 = t at h1 h2
  rw [w64_in (by omega) (by omega)]
  by_cases ht : t < 0
  · rw [decide_eq_true ht, cond_true, Int.tmod_eq_of_lt (by omega) (by omega)]
  · rw [decide_eq_false ht, cond_false, Int.tmod_eq_emod_of_nonneg (by omega)]
    congr 1; omega
theorem mod_some (v : Int) : ∃ c, impl_Mod v 2147483647 = some c := by
  unfold impl_Mod impl_InRange
  simp only [Option.bind_some, show (decide ((1 : Int) ≤ 2147483647) && decide ((2147483647 : Int) ≤ 1000000000000)) = true from rfl, Bool.not_true, cond_false, show (!decide ((2147483647 : Int) = 0)) = true from rfl, need_true]
  cases decide (v.tmod 2147483647 < 0) <;> exact ⟨_, rfl⟩
theorem hash_eq (l : List Int) : spec_Hash l = impl_Hash l := by
  have h : spec_Hash_l3 l = impl_Hash_l3 l (ln l) := by
    funext ⟨d, i⟩
    simp only [spec_Hash_l3, impl_Hash_l3, impl_fold, mod_eq]
    cases decide (i < ln l) with
    | false => rfl
    | true =>
      cases inb l i with
      | false => rfl
      | true =>
        simp only [cond_true, need_true]
        cases impl_Mod (gt l i) 2147483647 <;> rfl
  unfold spec_Hash impl_Hash
  rw [h]
theorem hash_some (l : List Int) (hl : l.length ≤ 1048576) : ∃ c, spec_Hash l = some c := by
  unfold spec_Hash
  obtain ⟨r, hr⟩ := run_ends (step := spec_Hash_l3 l) (fun i s => s.2 = (i : Int)) l.length (fun i s hi hs => by
      obtain ⟨d, i'⟩ := s
      simp only at hs
      subst hs
      obtain ⟨c, hc⟩ := mod_some (gt l (i : Int))
      refine .inr ⟨((w64 (w64 (w64 (d * 1000003) + c) + 13)).tmod 2147483647, w64 ((i : Int) + 1)), by simp only [spec_Hash_l3, lt_ln hi, inb_n hi, mod_eq, hc, Option.bind_some, cond_true, need_true], ?_⟩
      exact w64_n (by omega)) (fun s hs => by
      obtain ⟨d, i'⟩ := s
      simp only at hs
      subst hs
      exact ⟨d, by simp only [spec_Hash_l3, ge_ln (Nat.le_refl _), cond_false]⟩) l.length 0 (11, 0) (by omega) rfl
  exact ⟨r, by rw [hr]; rfl⟩
theorem handSeal (s : Int) (x : Hand) : ∃ c, spec_HandSeal s x = some c ∧ impl_HandSeal s x = some c := by
  obtain ⟨c, hc⟩ := hash_some [s, x.Thing, x.Holder, x.Who, x.At] (by simp)
  exact ⟨c, by unfold spec_HandSeal; rw [hc]; rfl, by unfold impl_HandSeal; rw [← hash_eq, hc]; rfl⟩
/-- The last of the first n hands that is of the thing, or -1. -/
def lastIx (l : List Hand) (t : Int) : Nat → Int
  | 0 => -1
  | n + 1 => if (gt l (n : Int)).Thing = t then (n : Int) else lastIx l t n
theorem lastIx_in (l : List Hand) (t : Int) : ∀ n, lastIx l t n = -1 ∨ ∃ j : Nat, j < n ∧ lastIx l t n = (j : Int)
  | 0 => .inl rfl
  | n + 1 => by
    unfold lastIx
    split
    · exact .inr ⟨n, by omega, rfl⟩
    · rcases lastIx_in l t n with h | ⟨j, h1, h2⟩
      · exact .inl h
      · exact .inr ⟨j, by omega, h2⟩
theorem l16Last (l : List Hand) (t : Int) (n : Nat) (hn : n ≤ l.length) (hl : l.length ≤ 1048576) : spec_l16Last l t (n : Int) = some (lastIx l t n) := by
  have hr := run_traj (step := spec_l16Last_l3 l t (n : Int)) (fun i => (lastIx l t i, (i : Int))) (r := lastIx l t n) n (fun i hi => by
      simp only [spec_l16Last_l3, show decide ((i : Int) < (n : Int)) = true from decide_eq_true (by omega), inb_n (show i < l.length by omega), w64_n (show (i : Int) < 9223372036854775807 by omega), cond_true, need_true, lastIx]
      by_cases ht : (gt l (i : Int)).Thing = t
      · rw [decide_eq_true ht, if_pos ht]; rfl
      · rw [decide_eq_false ht, if_neg ht]; rfl) (by
      simp only [spec_l16Last_l3, show decide ((n : Int) < (n : Int)) = false from decide_eq_false (by omega), cond_false])
  unfold spec_l16Last
  rw [show run (spec_l16Last_l3 l t (n : Int)) ((-1), 0) = some (lastIx l t n) from hr]
  rfl
theorem gt_cut {α : Type} [Inhabited α] (l : List α) (n : Nat) (i : Nat) (h : i < n) : gt (cut l 0 (n : Int)) (i : Int) = gt l (i : Int) := by
  unfold gt cut
  simp [List.getD_eq_getElem?_getD, List.getElem?_take, h]
theorem cut_len {α : Type} (l : List α) (n : Nat) (h : n ≤ l.length) : (cut l 0 (n : Int)).length = n := by
  unfold cut
  simp; omega
theorem lastHandC (l : List Hand) (t : Int) (n : Nat) (hn : n ≤ l.length) (hl : l.length ≤ 1048576) : impl_lastHand (cut l 0 (n : Int)) t = some (lastIx l t n) := by
  have key : ∀ j : Nat, j ≤ n → run (impl_lastHand_l2 (cut l 0 (n : Int)) t) ((j : Int) - 1) = some (bif decide (lastIx l t j < 0) then .brk () else .ret (lastIx l t j)) := by
    intro j
    induction j with
    | zero => intro _; rw [run_eq]; rfl
    | succ j ih =>
      intro hj
      have hlt : j < (cut l 0 (n : Int)).length := by rw [cut_len l n hn]; omega
      rw [show ((j + 1 : Nat) : Int) - 1 = (j : Int) by omega, run_eq]
      simp only [impl_lastHand_l2, show decide (0 ≤ (j : Int)) = true from decide_eq_true (by omega), inb_n hlt, gt_cut l n j (by omega), cond_true, need_true]
      by_cases ht : (gt l (j : Int)).Thing = t
      · have e : lastIx l t (j + 1) = (j : Int) := by unfold lastIx; rw [if_pos ht]
        rw [decide_eq_true ht, e, decide_eq_false (show ¬ (j : Int) < 0 by omega)]; rfl
      · have e : lastIx l t (j + 1) = lastIx l t j := by rw [lastIx, if_neg ht]
        rw [decide_eq_false ht, e, show w64 ((j : Int) - 1) = (j : Int) - 1 from w64_in (by omega) (by omega)]
        exact ih (by omega)
  unfold impl_lastHand
  rw [show w64 (ln (cut l 0 (n : Int)) - 1) = (n : Int) - 1 from by rw [ln_eq, cut_len l n hn, w64_in] <;> omega, key n (Nat.le_refl _)]
  rcases lastIx_in l t n with h | ⟨j, _, h⟩
  · rw [h]; rfl
  · rw [h, decide_eq_false (show ¬ (j : Int) < 0 by omega)]; rfl
theorem isChain_step (l : List Hand) (hl : l.length ≤ 100) (s : Int) (k : Nat) (hk : k ≤ l.length) : spec_IsChain_l3 l (s, (k : Int)) = impl_IsChain_l5 l l (ln l) (s, (k : Int)) := by
  by_cases hlt : k < l.length
  · obtain ⟨c, hc1, hc2⟩ := handSeal s l[k]
    have e100 : decide (ln l ≤ 100) = true := decide_eq_true (by rw [ln_eq]; omega)
    have hcut : slB 0 (k : Int) (ln l) = true := by unfold slB; simp [ln_eq]; omega
    simp only [spec_IsChain_l3, impl_IsChain_l5, lt_ln hlt, e100, inb_n hlt, gt_n hlt, Bool.and_true, cond_true, need_true, hc1, hc2, Option.bind_some, spec_l1In, impl_InRange, hcut, l16Last l _ k hk (by omega), lastHandC l _ k hk (by omega), w64_n (show (k : Int) < 9223372036854775807 by omega)]
    have h3 : ∀ h : Int, decide (3 ≤ h) = decide (2 < h) := fun h => by rw [decide_eq_decide]; omega
    have tail : ∀ (r : Int) (q : Int), (r = -1 ∨ ∃ j : Nat, j < k ∧ r = (j : Int)) →
        ((bif (decide (r < 0)) then (bif (decide (2 < l[k].Holder)) then some true else (bif (decide (0 ≤ r)) then (bif (decide (l[k].Holder = 1)) then some true else nd (inb l r) <| some (decide (3 ≤ (gt l r).Holder))) else some false)) else (bif (decide (0 ≤ r)) then (bif (decide (l[k].Holder = 1)) then some true else nd (inb l r) <| some (decide (3 ≤ (gt l r).Holder))) else some false)).bind fun b2 => (bif b2 then some (.inr (.ret false)) else some (.inl (q, ((k + 1 : Nat) : Int))) : Option ((Int × Int) ⊕ (Fl Bool Unit)))) =
        (bif (decide (r < 0)) then (bif (decide (2 < l[k].Holder)) then some (.inr (.ret false)) else some (.inl (q, ((k + 1 : Nat) : Int)))) else (bif (decide (l[k].Holder = 1)) then some true else nd (inb l r) <| some (decide (2 < (gt l r).Holder))).bind fun b2 => (bif b2 then some (.inr (.ret false)) else some (.inl (q, ((k + 1 : Nat) : Int))))) := by
      intro r q hr
      rcases hr with rfl | ⟨j, hj, rfl⟩
      · simp only [show decide ((-1 : Int) < 0) = true from rfl, show decide (0 ≤ (-1 : Int)) = false from rfl, cond_true, cond_false]
        cases decide (2 < l[k].Holder) <;> rfl
      · simp only [show decide ((j : Int) < 0) = false from decide_eq_false (by omega), show decide (0 ≤ (j : Int)) = true from decide_eq_true (by omega), cond_true, cond_false, inb_n (show j < l.length by omega), need_true, h3]
    have ht := lastIx_in l l[k].Thing k
    by_cases hq : l[k].Seal = c
    · subst hq
      simp only [decide_true, Bool.not_true, cond_false]
      by_cases h0 : 0 < k
      · simp only [show decide (0 < (k : Int)) = true from decide_eq_true (by omega), show w64 ((k : Int) - 1) = ((k - 1 : Nat) : Int) from by rw [w64_in] <;> omega, inb_n (show k - 1 < l.length by omega), cond_true, need_true, Option.bind_some]
        cases (decide (1 ≤ l[k].Thing) && decide (l[k].Thing ≤ 999)) <;> cases (decide (1 ≤ l[k].Holder) && decide (l[k].Holder ≤ 5)) <;> cases (decide (0 ≤ l[k].Who) && decide (l[k].Who ≤ 999)) <;> cases (decide (0 ≤ l[k].At) && decide (l[k].At ≤ 100000)) <;> cases decide (l[k].At < (gt l ((k - 1 : Nat) : Int)).At) <;>
          simp only [Bool.not_true, Bool.not_false, cond_true, cond_false, Option.bind_some]
        exact tail _ _ ht
      · simp only [show decide (0 < (k : Int)) = false from decide_eq_false (by omega), cond_false, Option.bind_some]
        cases (decide (1 ≤ l[k].Thing) && decide (l[k].Thing ≤ 999)) <;> cases (decide (1 ≤ l[k].Holder) && decide (l[k].Holder ≤ 5)) <;> cases (decide (0 ≤ l[k].Who) && decide (l[k].Who ≤ 999)) <;> cases (decide (0 ≤ l[k].At) && decide (l[k].At ≤ 100000)) <;>
          simp only [Bool.not_true, Bool.not_false, cond_true, cond_false, Option.bind_some]
        exact tail _ _ ht
    · simp only [decide_eq_false hq, Bool.not_false, cond_true]
      by_cases h0 : 0 < k
      · simp only [show decide (0 < (k : Int)) = true from decide_eq_true (by omega), show w64 ((k : Int) - 1) = ((k - 1 : Nat) : Int) from by rw [w64_in] <;> omega, inb_n (show k - 1 < l.length by omega), cond_true, need_true, Option.bind_some]
        cases (decide (1 ≤ l[k].Thing) && decide (l[k].Thing ≤ 999)) <;> cases (decide (1 ≤ l[k].Holder) && decide (l[k].Holder ≤ 5)) <;> cases (decide (0 ≤ l[k].Who) && decide (l[k].Who ≤ 999)) <;> cases (decide (0 ≤ l[k].At) && decide (l[k].At ≤ 100000)) <;> cases decide (l[k].At < (gt l ((k - 1 : Nat) : Int)).At) <;>
          simp only [Bool.not_true, Bool.not_false, cond_true, cond_false, Option.bind_some]
      · simp only [show decide (0 < (k : Int)) = false from decide_eq_false (by omega), cond_false, Option.bind_some]
        cases (decide (1 ≤ l[k].Thing) && decide (l[k].Thing ≤ 999)) <;> cases (decide (1 ≤ l[k].Holder) && decide (l[k].Holder ≤ 5)) <;> cases (decide (0 ≤ l[k].Who) && decide (l[k].Who ≤ 999)) <;> cases (decide (0 ≤ l[k].At) && decide (l[k].At ≤ 100000)) <;>
          simp only [Bool.not_true, Bool.not_false, cond_true, cond_false, Option.bind_some]
  · have : k = l.length := by omega
    subst this
    simp only [spec_IsChain_l3, impl_IsChain_l5, ge_ln (Nat.le_refl _), Bool.false_and, cond_false]
/-- One round of the reference: left, or on to the next; and then its hour is in its bounds, and not ahead of the one before. -/
theorem isChain_round (l : List Hand) (hl : l.length ≤ 100) (s : Int) (k : Nat) (hlt : k < l.length) :
    spec_IsChain_l3 l (s, (k : Int)) = some (.inr (.ret false)) ∨ (∃ c, spec_IsChain_l3 l (s, (k : Int)) = some (.inl (c, ((k + 1 : Nat) : Int)))) ∧ 0 ≤ l[k].At ∧ l[k].At ≤ 100000 ∧ ∀ (h : 0 < k), (l[k - 1]'(by omega)).At ≤ l[k].At := by
  obtain ⟨c, hc1, hc2⟩ := handSeal s l[k]
  have e100 : decide (ln l ≤ 100) = true := decide_eq_true (by rw [ln_eq]; omega)
  have ht := lastIx_in l l[k].Thing k
  simp only [spec_IsChain_l3, lt_ln hlt, e100, inb_n hlt, gt_n hlt, Bool.and_true, cond_true, need_true, hc1, Option.bind_some, spec_l1In, l16Last l _ k (by omega) (by omega), w64_n (show (k : Int) < 9223372036854775807 by omega)]
  have tail : ∀ r : Int, (r = -1 ∨ ∃ j : Nat, j < k ∧ r = (j : Int)) → ∃ b, (bif (decide (r < 0)) then (bif (decide (2 < l[k].Holder)) then some true else (bif (decide (0 ≤ r)) then (bif (decide (l[k].Holder = 1)) then some true else nd (inb l r) <| some (decide (3 ≤ (gt l r).Holder))) else some false)) else (bif (decide (0 ≤ r)) then (bif (decide (l[k].Holder = 1)) then some true else nd (inb l r) <| some (decide (3 ≤ (gt l r).Holder))) else some false)) = some b := by
    intro r hr
    rcases hr with rfl | ⟨j, hj, rfl⟩
    · simp only [show decide ((-1 : Int) < 0) = true from rfl, show decide (0 ≤ (-1 : Int)) = false from rfl, cond_true, cond_false]
      cases decide (2 < l[k].Holder) <;> exact ⟨_, rfl⟩
    · simp only [show decide ((j : Int) < 0) = false from decide_eq_false (by omega), show decide (0 ≤ (j : Int)) = true from decide_eq_true (by omega), cond_true, cond_false, inb_n (show j < l.length by omega), need_true]
      cases decide (l[k].Holder = 1) <;> exact ⟨_, rfl⟩
  obtain ⟨b, hb⟩ := tail _ ht
  simp only [hb, Option.bind_some]
  by_cases h1 : (decide (1 ≤ l[k].Thing) && decide (l[k].Thing ≤ 999)) = false
  · left; simp only [h1, Bool.not_true, Bool.not_false, cond_true, cond_false, Option.bind_some]
  rw [Bool.not_eq_false] at h1
  by_cases h2 : (decide (1 ≤ l[k].Holder) && decide (l[k].Holder ≤ 5)) = false
  · left; simp only [h1, h2, Bool.not_true, Bool.not_false, cond_true, cond_false, Option.bind_some]
  rw [Bool.not_eq_false] at h2
  by_cases h3 : (decide (0 ≤ l[k].Who) && decide (l[k].Who ≤ 999)) = false
  · left; simp only [h1, h2, h3, Bool.not_true, Bool.not_false, cond_true, cond_false, Option.bind_some]
  rw [Bool.not_eq_false] at h3
  by_cases h4 : (decide (0 ≤ l[k].At) && decide (l[k].At ≤ 100000)) = false
  · left; simp only [h1, h2, h3, h4, Bool.not_true, Bool.not_false, cond_true, cond_false, Option.bind_some]
  rw [Bool.not_eq_false] at h4
  simp only [h1, h2, h3, h4, Bool.not_true, cond_false, Option.bind_some]
  simp only [Bool.and_eq_true, decide_eq_true_eq] at h4
  cases decide (l[k].Seal = c) with
  | false => left; simp only [Bool.not_false, cond_true, Option.bind_some]
  | true =>
    simp only [Bool.not_true, cond_false]
    by_cases h0 : 0 < k
    · simp only [show decide (0 < (k : Int)) = true from decide_eq_true (by omega), show w64 ((k : Int) - 1) = ((k - 1 : Nat) : Int) from by rw [w64_in] <;> omega, inb_n (show k - 1 < l.length by omega), gt_n (show k - 1 < l.length by omega), cond_true, need_true, Option.bind_some]
      by_cases h5 : l[k].At < (l[k - 1]'(by omega)).At
      · left; rw [decide_eq_true h5]; rfl
      · rw [decide_eq_false h5]
        simp only [cond_false]
        cases b with
        | true => left; rfl
        | false => right; exact ⟨⟨_, rfl⟩, h4.1, h4.2, fun _ => by omega⟩
    · simp only [show decide (0 < (k : Int)) = false from decide_eq_false (by omega), cond_false, Option.bind_some]
      cases b with
      | true => left; rfl
      | false => right; exact ⟨⟨_, rfl⟩, h4.1, h4.2, fun h => absurd h h0⟩
theorem isChain_run (l : List Hand) (hl : l.length ≤ 100) : run (spec_IsChain_l3 l) (0, 0) = some (.brk ()) ∨ run (spec_IsChain_l3 l) (0, 0) = some (.ret false) := by
  have key : ∀ (m k : Nat) (s : Int), k + m = l.length → run (spec_IsChain_l3 l) (s, (k : Int)) = some (.brk ()) ∨ run (spec_IsChain_l3 l) (s, (k : Int)) = some (.ret false) := by
    intro m
    induction m with
    | zero =>
      intro k s hk
      have : k = l.length := by omega
      subst this
      left
      rw [run_eq]
      simp only [spec_IsChain_l3, ge_ln (Nat.le_refl _), Bool.false_and, cond_false, Option.bind_some]
    | succ m ih =>
      intro k s hk
      rcases isChain_round l hl s k (by omega) with h | ⟨⟨c, h⟩, _⟩
      · right; rw [run_eq, h]; rfl
      · rw [run_eq, h]; exact ih (k + 1) c (by omega)
  exact key l.length 0 0 (by omega)
theorem isChain (l : List Hand) : ∃ b, spec_IsChain l = some b ∧ impl_IsChain l = some b ∧
    (b = true → l.length ≤ 100 ∧ ∀ k (h : k < l.length), 0 ≤ l[k].At ∧ l[k].At ≤ 100000 ∧ ∀ (h' : 0 < k), (l[k - 1]'(by omega)).At ≤ l[k].At) := by
  by_cases hl : l.length ≤ 100
  · have he : run (spec_IsChain_l3 l) (0, 0) = run (impl_IsChain_l5 l l (ln l)) (0, 0) := by
      refine run_congr (fun s => ∃ k : Nat, k ≤ l.length ∧ s.2 = (k : Int)) (fun s ⟨k, hk, hs⟩ => ?_) (fun s s' ⟨k, hk, hs⟩ hg => ?_) ⟨0, by omega, rfl⟩
      · obtain ⟨a, i⟩ := s
        simp only at hs
        subst hs
        exact isChain_step l hl a k hk
      · obtain ⟨a, i⟩ := s
        simp only at hs
        subst hs
        rw [← isChain_step l hl a k hk] at hg
        by_cases hlt : k < l.length
        · rcases isChain_round l hl a k hlt with h | ⟨⟨c, h⟩, _⟩
          · rw [h] at hg; simp at hg
          · rw [h] at hg
            injection hg with hg; injection hg with hg; subst hg
            exact ⟨k + 1, by omega, rfl⟩
        · have : k = l.length := by omega
          subst this
          simp only [spec_IsChain_l3, ge_ln (Nat.le_refl _), Bool.false_and, cond_false] at hg
          simp at hg
    have e100 : decide (ln l ≤ 100) = true := decide_eq_true (by rw [ln_eq]; omega)
    have e101 : decide (100 < ln l) = false := decide_eq_false (by rw [ln_eq]; omega)
    unfold spec_IsChain impl_IsChain
    rw [← he, e101]
    rcases isChain_run l hl with h | h
    · refine ⟨true, by rw [h, e100]; rfl, by rw [h]; rfl, fun _ => ⟨hl, fun k hk => ?_⟩⟩
      obtain ⟨⟨s, i⟩, s', hs, hst⟩ := run_through (step := spec_IsChain_l3 l) (fun i s => s.2 = (i : Int)) l.length () (fun i s hi hs => by
        obtain ⟨a, i'⟩ := s
        simp only at hs
        subst hs
        rcases isChain_round l hl a i hi with h | ⟨⟨c, h⟩, _⟩
        · exact .inl ⟨_, h⟩
        · exact .inr ⟨_, h, rfl⟩) l.length 0 (0, 0) (by omega) rfl h k (by omega) hk
      simp only at hs
      subst hs
      rcases isChain_round l hl s k hk with h' | ⟨_, h'⟩
      · rw [h'] at hst; simp at hst
      · exact h'
    · exact ⟨false, by rw [h]; rfl, by rw [h]; rfl, fun h => by cases h⟩
  · refine ⟨false, ?_, ?_, fun h => by cases h⟩
    · have e100 : decide (ln l ≤ 100) = false := decide_eq_false (by rw [ln_eq]; omega)
      unfold spec_IsChain
      rw [run_eq]
      simp only [spec_IsChain_l3, e100, Bool.and_false, cond_false, Option.bind_some]
      rfl
    · unfold impl_IsChain
      rw [show decide (100 < ln l) = true from decide_eq_true (by rw [ln_eq]; omega)]
      rfl
end Go.Proofs.YtidclodlpdccaaaDoor

/- Hands that are drawn: the draw never fails, they are few, and their numbers fit. No condition but the length. -/
namespace Go.Proofs.YtidclodlpdccaaaDoor
open Go
set_option linter.unusedVariables false
set_option linter.unusedSimpArgs false
theorem rm_few {n b : Nat} (hn : n ≤ 2000000) (hb : b ≤ 1024) : rm n b = true := by
  unfold rm
  refine decide_eq_true ?_
  have := Nat.mul_le_mul hn hb
  omega
def hk (x : Hand) : Prop := i64 x.Who ∧ i64 x.At
theorem l16One_ok (c : l1Cur) (a : Int) (h : okC c) (ha : i64 a) : ∃ c' x, spec_l16One c a = some (c', x) ∧ okC c' ∧ hk x := by
  obtain ⟨c1, x1, e1, k1, _⟩ := l1Below_ok c 4 h
  obtain ⟨c2, x2, e2, k2, _⟩ := l1Int_ok c1 [1, 1, 2, 2, 2, 3, 4, 5] k1 (by simp)
  obtain ⟨c3, x3, e3, k3, _⟩ := l1Below_ok c2 3 k2
  exact ⟨c3, _, by unfold spec_l16One; simp only [e1, e2, e3, Option.bind_some]; rfl, k3, w64_rng _, ha⟩
theorem addHand_ok (l : List Hand) (x : Hand) (hl : l.length ≤ 100000) (hx : hk x) (h : ∀ y ∈ l, hk y) :
    ∃ l' b, spec_AddHand l x = some (l', b) ∧ l'.length ≤ l.length + 1 ∧ ∀ y ∈ l', hk y := by
  have r1 : rm (0 + l.length) 40 = true := rm_few (by omega) (by omega)
  have r2 : rm (l.length + 1) 40 = true := rm_few (by omega) (by omega)
  have tail : ∀ r : Int, ∃ l' b, (nd (rm (0 + l.length) 40) <| nd (rm (l.length + 1) 40) <| (spec_IsChain (l ++ [(⟨x.Thing, x.Holder, x.Who, x.At, r⟩ : Hand)])).bind fun r2 => (bif (!r2) then nd (rm (0 + l.length) 40) <| some (l, false) else some (l ++ [(⟨x.Thing, x.Holder, x.Who, x.At, r⟩ : Hand)], true))) = some (l', b) ∧ l'.length ≤ l.length + 1 ∧ ∀ y ∈ l', hk y := by
    intro r
    obtain ⟨b, b1, _⟩ := isChain (l ++ [(⟨x.Thing, x.Holder, x.Who, x.At, r⟩ : Hand)])
    rw [r1, r2, b1]
    cases b with
    | false => exact ⟨l, false, rfl, by omega, h⟩
    | true =>
      refine ⟨_, true, rfl, by simp, fun y hy => ?_⟩
      rcases List.mem_append.1 hy with hy | hy
      · exact h y hy
      · rw [List.mem_singleton.1 hy]; exact hx
  unfold spec_AddHand
  by_cases h0 : 0 < l.length
  · rw [decide_eq_true (show 0 < ln l by rw [ln_eq]; omega), show w64 (ln l - 1) = ((l.length - 1 : Nat) : Int) from by rw [ln_eq, w64_in] <;> omega, inb_n (show l.length - 1 < l.length by omega), gt_n (show l.length - 1 < l.length by omega)]
    obtain ⟨s, s1, _⟩ := handSeal (l[l.length - 1]).Seal x
    simp only [s1, cond_true, need_true, Option.bind_some]
    exact tail s
  · rw [decide_eq_false (show ¬ 0 < ln l by rw [ln_eq]; omega)]
    obtain ⟨s, s1, _⟩ := handSeal 0 x
    simp only [s1, cond_false, Option.bind_some]
    exact tail s
theorem l16Draw_ok (c : l1Cur) (h : okC c) : ∃ c' l, spec_l16Draw c = some (c', l) ∧ okC c' ∧ l.length ≤ 12 ∧ ∀ y ∈ l, hk y := by
  have key : ∀ (m : Nat) (c : l1Cur) (l : List Hand) (a : Int), okC c → l.length + m ≤ 12 → i64 a → (∀ y ∈ l, hk y) → ∃ c' l', run spec_l16Draw_l4 (c, l, a, (m : Int)) = some (c', l') ∧ okC c' ∧ l'.length ≤ 12 ∧ ∀ y ∈ l', hk y := by
    intro m
    induction m with
    | zero =>
      intro c l a hc hl ha hy
      exact ⟨c, l, by rw [run_eq]; simp only [spec_l16Draw_l4, show decide ((0 : Int) < ((0 : Nat) : Int)) = false from rfl, cond_false, Option.bind_some], hc, by omega, hy⟩
    | succ m ih =>
      intro c l a hc hl ha hy
      obtain ⟨c1, x, e1, k1, kx⟩ := l16One_ok c a hc ha
      obtain ⟨l', b, e2, n2, hy2⟩ := addHand_ok l x (by omega) kx hy
      obtain ⟨c3, x3, e3, k3, _⟩ := l1Below_ok c1 9 k1
      obtain ⟨c', l2, r1, r2, r3, r4⟩ := ih c3 l' (w64 (a + x3)) k3 (by omega) (w64_rng _) hy2
      refine ⟨c', l2, ?_, r2, r3, r4⟩
      rw [run_eq]
      simp only [spec_l16Draw_l4, decide_eq_true (show (0 : Int) < ((m + 1 : Nat) : Int) by omega), e1, e2, e3, cond_true, Option.bind_some, show w64 (((m + 1 : Nat) : Int) - 1) = (m : Int) from by rw [w64_in] <;> omega]
      exact r1
  obtain ⟨c1, x1, e1, k1, l1, u1⟩ := l1Below_ok c 12 h
  have hx : x1 = ((x1.toNat : Nat) : Int) := by omega
  obtain ⟨c', l', r1, r2, r3, r4⟩ := key x1.toNat c1 [] 0 k1 (by have := u1 (by omega); simp; omega) (by unfold i64; omega) (by simp)
  refine ⟨c', l', ?_, r2, r3, r4⟩
  unfold spec_l16Draw
  rw [e1]
  simp only [Option.bind_some]
  rw [hx, r1]; rfl
theorem set_hk {l : List Hand} {n : Nat} {x : Hand} (h : ∀ y ∈ l, hk y) (hx : hk x) : ∀ y ∈ l.set n x, hk y := fun y hy => by
  rcases List.mem_or_eq_of_mem_set hy with hy | hy
  · exact h y hy
  · rw [hy]; exact hx
theorem l4Raw_ok (c : l1Cur) (h : okC c) : ∃ c' x, spec_l4Raw c = some (c', x) ∧ okC c' ∧ i64 x := by
  obtain ⟨c1, x1, e1, k1, m1⟩ := l1Int_ok c [(-1), 0, 8, 50, 51, 1000, 9223372036854775807, (-9223372036854775808)] h (by simp)
  refine ⟨c1, x1, by unfold spec_l4Raw; rw [e1]; rfl, k1, ?_⟩
  simp only [List.mem_cons, List.not_mem_nil, or_false] at m1
  unfold i64; omega
theorem l16Any_ok (c : l1Cur) (h : okC c) : ∃ c' l, spec_l16Any c = some (c', l) ∧ okC c' ∧ l.length ≤ 12 ∧ ∀ y ∈ l, hk y := by
  obtain ⟨c1, l, e1, k1, n1, hy⟩ := l16Draw_ok c h
  unfold spec_l16Any
  rw [e1]
  simp only [Option.bind_some]
  by_cases h0 : l.length = 0
  · rw [decide_eq_true (show ln l = 0 by rw [ln_eq]; omega)]; exact ⟨c1, l, rfl, k1, n1, hy⟩
  · rw [decide_eq_false (show ¬ ln l = 0 by rw [ln_eq]; omega)]
    obtain ⟨c2, x2, e2, k2, l2, u2⟩ := l1Below_ok c1 (ln l) k1
    obtain ⟨c3, x3, e3, k3, _⟩ := l1Below_ok c2 12 k2
    have u2 := u2 (by rw [ln_eq]; omega)
    rw [ln_eq] at u2
    have hx : x2 = ((x2.toNat : Nat) : Int) := by omega
    have hi : x2.toNat < l.length := by omega
    have hin : inb l x2 = true := by rw [inb_iff]; omega
    have hg : hk (gt l x2) := by rw [hx, gt_n hi]; exact hy _ (List.getElem_mem hi)
    obtain ⟨c4, x4, e4, k4, m4⟩ := l1Int_ok c3 [0, 5, 6] k3 (by simp)
    obtain ⟨c5, x5, e5, k5, m5⟩ := l4Raw_ok c3 k3
    obtain ⟨c6, x6, e6, k6, m6⟩ := l1Int_ok c3 [(-1), 100000, 100001] k3 (by simp)
    have i6 : i64 x6 := by
      simp only [List.mem_cons, List.not_mem_nil, or_false] at m6
      unfold i64; omega
    have ls : ∀ (n : Nat) (x : Hand), (l.set n x).length ≤ 12 := fun n x => by rw [List.length_set]; exact n1
    simp only [e2, e3, e4, e5, e6, hin, cond_false, Option.bind_some, need_true]
    cases decide (x3 = 0) with
    | true => exact ⟨_, _, rfl, k3, ls _ _, set_hk hy ⟨hg.1, hg.2⟩⟩
    | false =>
    cases decide (x3 = 1) with
    | true => exact ⟨_, _, rfl, k4, ls _ _, set_hk hy ⟨hg.1, hg.2⟩⟩
    | false =>
    cases decide (x3 = 2) with
    | true => exact ⟨_, _, rfl, k5, ls _ _, set_hk hy ⟨m5, hg.2⟩⟩
    | false =>
    cases decide (x3 = 3) with
    | true => exact ⟨_, _, rfl, k6, ls _ _, set_hk hy ⟨hg.1, i6⟩⟩
    | false =>
    cases decide (x3 = 4) with
    | true => exact ⟨_, _, rfl, k3, ls _ _, set_hk hy ⟨hg.1, hg.2⟩⟩
    | false => exact ⟨_, _, rfl, k3, n1, hy⟩
theorem drawHandsOf_ok (l : List Int) (hl : l.length ≤ 1048576) : ∃ h k, spec_DrawHandsOf l = some (h, k) ∧ h.length ≤ 12 ∧ ∀ y ∈ h, hk y := by
  obtain ⟨c, e, hc⟩ := l1New_ok l hl
  obtain ⟨c1, h, e1, k1, n1, hy⟩ := l16Any_ok c hc
  obtain ⟨c2, x2, e2, _⟩ := l1Below_ok c1 6 k1
  exact ⟨h, _, by unfold spec_DrawHandsOf; simp only [e, e1, e2, Option.bind_some]; rfl, n1, hy⟩
end Go.Proofs.YtidclodlpdccaaaDoor

/- Numbers as texts, and texts joined, of the program alone. No condition but the length. -/
namespace Go.Proofs.YtidclodlpdccaaaDoor
open Go
set_option linter.unusedVariables false
set_option linter.unusedSimpArgs false
theorem sfit_ok {x y : List UInt8} (hx : x.length ≤ 1000000000000) (hy : y.length ≤ 1000000000000) : sfit x y = true := by
  unfold sfit; exact decide_eq_true (by omega)
theorem scat_len (x y : List UInt8) : (scat x y).length = x.length + y.length := by simp [scat]
theorem impl_fmt (n : Int) (h : i64 n) : impl_FormatInt n = some (Lib.itoa n) := by
  unfold i64 at h
  unfold impl_FormatInt strconv_Itoa
  rw [decide_eq_true h.1, decide_eq_true h.2]; rfl
theorem itoa_len (n : Int) (h : i64 n) : (Lib.itoa n).length ≤ 21 := Lib.itoa_length_le n h.1 h.2
/-- Texts with spaces between them. -/
def short (L : List (List UInt8)) : Prop := L.length ≤ 1048576 ∧ ∀ x ∈ L, x.length ≤ 200
theorem joinTail_len (sep : List UInt8) (hsep : sep.length = 1) : ∀ (L : List (List UInt8)), (∀ x ∈ L, x.length ≤ 200) → (Lib.joinTail sep L).length ≤ L.length * 201
  | [], _ => by simp [Lib.joinTail]
  | x :: L, h => by
    have h1 := joinTail_len sep hsep L fun y hy => h y (by simp [hy])
    have h2 := h x (by simp)
    have e : Lib.joinTail sep (x :: L) = sep ++ x ++ Lib.joinTail sep L := by simp [Lib.joinTail]
    rw [e]
    simp only [List.length_append, List.length_cons, hsep]
    omega
theorem join_len (sep : List UInt8) (hsep : sep.length = 1) : ∀ (L : List (List UInt8)), (∀ x ∈ L, x.length ≤ 200) → (Lib.join L sep).length ≤ L.length * 201
  | [], _ => by rw [Lib.join_nil]; simp
  | x :: L, h => by
    rw [Lib.join_cons]
    have h1 := joinTail_len sep hsep L fun y hy => h y (by simp [hy])
    have h2 := h x (by simp)
    simp only [List.length_append, List.length_cons]
    omega
theorem strs_join (L : List (List UInt8)) (hL : short L) : strings_Join L [32] = some (Lib.join L [32]) := by
  have hb := join_len [32] rfl L hL.2
  have hl := hL.1
  unfold strings_Join
  rw [decide_eq_true (by omega), decide_eq_true (by omega)]; rfl
theorem run_map_texts {α : Type} (l : List α) (f : α → List UInt8) {step : List (List UInt8) × Int → Option ((List (List UInt8) × Int) ⊕ List (List UInt8))}
    (h1 : ∀ (i : Nat) (out : List (List UInt8)) (h : i < l.length), out.length ≤ i → step (out, (i : Int)) = some (.inl (out ++ [f l[i]], ((i + 1 : Nat) : Int)))) (h2 : ∀ out, step (out, (l.length : Int)) = some (.inr out)) :
    run step ([], 0) = some (l.map f) := by
  have := run_filter l (fun _ => true) f (step := step) (fun i out h ho => by rw [h1 i out h ho]; rfl) h2
  rw [this, List.filter_eq_self.2 (fun _ _ => rfl)]
theorem short_map {α : Type} {l : List α} {f : α → List UInt8} (hl : l.length ≤ 1048576) (h : ∀ x ∈ l, (f x).length ≤ 200) : short (l.map f) := by
  refine ⟨by rw [List.length_map]; exact hl, fun y hy => ?_⟩
  obtain ⟨x, hx, rfl⟩ := List.mem_map.1 hy
  exact h x hx
theorem fitS {x y : List UInt8} (hx : x.length ≤ 150) (hy : y.length ≤ 150) : sfit x y = true := sfit_ok (by omega) (by omega)
theorem one_len (c : UInt8) : ([c] : List UInt8).length ≤ 150 := by simp
theorem rm_few2 {n b : Nat} (hn : n ≤ 2000000) (hb : b ≤ 1024) : rm n b = true := by
  unfold rm
  refine decide_eq_true ?_
  have := Nat.mul_le_mul hn hb
  omega
end Go.Proofs.YtidclodlpdccaaaDoor

/- Stories of things: one sign for each hand, ends, hours of stay and travels within their bounds. No condition but the length. -/
namespace Go.Proofs.YtidclodlpdccaaaDoor
open Go
set_option linter.unusedVariables false
set_option linter.unusedSimpArgs false
theorem handsOfI (l : List Hand) (t : Int) (h : l.length ≤ 1048576) : impl_HandsOf l t = some (l.filter fun x => decide (x.Thing = t)) := by
  have hr := run_filter l (fun x => decide (x.Thing = t)) (fun x => x) (step := impl_HandsOf_l3 t l (ln l)) (fun i out hi ho => by
      simp only [impl_HandsOf_l3, lt_ln hi, inb_n hi, gt_n hi, w64_n (show (i : Int) < 9223372036854775807 by omega), rm_few2 (show out.length + 1 ≤ 2000000 by omega) (show 40 ≤ 1024 by omega), cond_true, need_true]
      cases decide (l[i].Thing = t) <;> rfl)
    (fun out => by simp only [impl_HandsOf_l3, ge_ln (Nat.le_refl _), cond_false])
  rw [List.map_id'] at hr
  unfold impl_HandsOf; rw [hr]; rfl
/-- Who holds a thing, as a text. -/
def holdI (h : Int) : List UInt8 :=
  if h = 1 then [102, 105, 110, 100, 101, 114] else if h = 2 then [104, 111, 117, 115, 101] else if h = 3 then [111, 119, 110, 101, 114] else if h = 4 then [98, 117, 121, 101, 114] else if h = 5 then [103, 111, 110, 101] else []
theorem holdI_eq (h : Int) : impl_HolderText h = some (holdI h) := by
  by_cases hk : 1 ≤ h ∧ h ≤ 5
  · obtain ⟨h2, h3⟩ := hk
    have : h = 1 ∨ h = 2 ∨ h = 3 ∨ h = 4 ∨ h = 5 := by omega
    rcases this with rfl | rfl | rfl | rfl | rfl <;> rfl
  · have e : (decide (1 ≤ h) && decide (h ≤ 5)) = false := by
      by_cases h2 : 1 ≤ h
      · have h3 : ¬ h ≤ 5 := by omega
        simp [h2, h3]
      · simp [h2]
    unfold impl_HolderText impl_InRange holdI
    rw [if_neg (by omega), if_neg (by omega), if_neg (by omega), if_neg (by omega), if_neg (by omega)]
    simp [e]
def holdL : List (List UInt8) := [[102, 105, 110, 100, 101, 114], [104, 111, 117, 115, 101], [111, 119, 110, 101, 114], [98, 117, 121, 101, 114], [103, 111, 110, 101], []]
theorem holdI_in (h : Int) : holdI h ∈ holdL := by
  unfold holdI
  by_cases h1 : h = 1
  · rw [if_pos h1]; decide
  by_cases h2 : h = 2
  · rw [if_neg h1, if_pos h2]; decide
  by_cases h3 : h = 3
  · rw [if_neg h1, if_neg h2, if_pos h3]; decide
  by_cases h4 : h = 4
  · rw [if_neg h1, if_neg h2, if_neg h3, if_pos h4]; decide
  by_cases h5 : h = 5
  · rw [if_neg h1, if_neg h2, if_neg h3, if_neg h4, if_pos h5]; decide
  rw [if_neg h1, if_neg h2, if_neg h3, if_neg h4, if_neg h5]; decide
theorem holdL_all : ∀ s ∈ holdL, s.length ≤ 6 ∧ s.count 43 = 0 ∧ s ≠ [45] := by decide
theorem holdI_len (h : Int) : (holdI h).length ≤ 6 := (holdL_all _ (holdI_in h)).1
theorem holdI_plus (h : Int) : (holdI h).count 43 = 0 := (holdL_all _ (holdI_in h)).2.1
theorem holdI_ne (h : Int) : holdI h ≠ [45] := (holdL_all _ (holdI_in h)).2.2
theorem holdI_nil (h : Int) : holdI h = [] ↔ (h < 1 ∨ 5 < h) := by
  unfold holdI
  by_cases h1 : h = 1
  · subst h1; simp
  by_cases h2 : h = 2
  · subst h2; simp
  by_cases h3 : h = 3
  · subst h3; simp
  by_cases h4 : h = 4
  · subst h4; simp
  by_cases h5 : h = 5
  · subst h5; simp
  rw [if_neg h1, if_neg h2, if_neg h3, if_neg h4, if_neg h5]
  simp; omega
theorem digit_plus : ∀ u : Nat, (Lib.decDigits u).count 43 = 0 := by
  intro u
  induction u using Nat.strongRecOn with
  | _ u ih =>
    have one : ∀ d : Nat, d < 10 → ([UInt8.ofNat (48 + d)] : List UInt8).count 43 = 0 := by
      intro d hd
      have : d = 0 ∨ d = 1 ∨ d = 2 ∨ d = 3 ∨ d = 4 ∨ d = 5 ∨ d = 6 ∨ d = 7 ∨ d = 8 ∨ d = 9 := by omega
      rcases this with rfl | rfl | rfl | rfl | rfl | rfl | rfl | rfl | rfl | rfl <;> decide
    rw [Lib.decDigits]
    by_cases hu : u < 10
    · rw [dif_pos hu]; exact one u hu
    · rw [dif_neg hu, List.count_append, ih (u / 10) (by omega), one (u % 10) (by omega)]
theorem itoa_plus (n : Int) : (Lib.itoa n).count 43 = 0 := by
  unfold Lib.itoa
  split
  · rw [List.count_cons, digit_plus]; decide
  · exact digit_plus _
/-- A hand, as a text. -/
def handI (x : Hand) : List UInt8 := scat (scat (scat (holdI x.Holder) (Lib.itoa x.Who)) [43]) (Lib.itoa x.At)
theorem handI_len (x : Hand) (h1 : i64 x.Who) (h2 : i64 x.At) : (handI x).length ≤ 200 := by
  have a := itoa_len _ h1; have b := itoa_len _ h2; have c := holdI_len x.Holder
  unfold handI
  simp only [scat_len, List.length_cons, List.length_nil]
  omega
theorem handI_plus (x : Hand) : (handI x).count 43 = 1 := by
  unfold handI scat
  simp only [List.count_append, holdI_plus, itoa_plus]
  rfl
theorem joinTail_plus : ∀ L : List (List UInt8), (∀ x ∈ L, x.count 43 = 1) → (Lib.joinTail [32] L).count 43 = L.length
  | [], _ => by simp [Lib.joinTail]
  | x :: L, h => by
    have e : Lib.joinTail [32] (x :: L) = [32] ++ x ++ Lib.joinTail [32] L := by simp [Lib.joinTail]
    rw [e, List.count_append, List.count_append, h x (by simp), joinTail_plus L fun y hy => h y (by simp [hy]), List.length_cons]
    have : ([32] : List UInt8).count 43 = 0 := by decide
    omega
theorem join_plus (L : List (List UInt8)) (h : ∀ x ∈ L, x.count 43 = 1) : (Lib.join L [32]).count 43 = L.length := by
  cases L with
  | nil => rw [Lib.join_nil]; rfl
  | cons x L =>
    rw [Lib.join_cons, List.count_append, h x (by simp), joinTail_plus L fun y hy => h y (by simp [hy]), List.length_cons]
    omega
/-- The story, and its signs. -/
theorem storyI (l : List Hand) (t : Int) (hl0 : l.length ≤ 1048576) (hx0 : ∀ x ∈ l, i64 x.Who ∧ i64 x.At) :
    ∃ s, impl_StoryOf l t = some s ∧ s.count 43 = (l.filter fun x => decide (x.Thing = t)).length ∧ s.length ≤ 300000000 ∧ (s = [45] ↔ (l.filter fun x => decide (x.Thing = t)).length = 0) := by
  have e2 := handsOfI l t hl0
  have hl : (l.filter fun x => decide (x.Thing = t)).length ≤ 1048576 := Nat.le_trans (List.length_filter_le _ _) hl0
  have hx : ∀ x ∈ l.filter (fun x => decide (x.Thing = t)), i64 x.Who ∧ i64 x.At := fun x h => hx0 x (List.mem_filter.1 h).1
  generalize l.filter (fun x => decide (x.Thing = t)) = m at e2 hl hx
  have hsh : short (m.map handI) := short_map hl fun x h => handI_len x (hx x h).1 (hx x h).2
  have hi := run_map_texts m handI (step := impl_StoryOf_l3 m (ln m)) (fun i out hi ho => by
      obtain ⟨m1, m2⟩ := hx _ (List.getElem_mem hi)
      have a := itoa_len _ m1; have b := itoa_len _ m2
      have q3 := holdI_len m[i].Holder
      have f1 : sfit (holdI m[i].Holder) (Lib.itoa m[i].Who) = true := fitS (by omega) (by omega)
      have f2 : sfit (scat (holdI m[i].Holder) (Lib.itoa m[i].Who)) [43] = true := fitS (by rw [scat_len]; omega) (one_len _)
      have f3 : sfit (scat (scat (holdI m[i].Holder) (Lib.itoa m[i].Who)) [43]) (Lib.itoa m[i].At) = true := fitS (by rw [scat_len, scat_len]; simp only [List.length_cons, List.length_nil]; omega) (by omega)
      simp only [impl_StoryOf_l3, lt_ln hi, inb_n hi, gt_n hi, w64_n (show (i : Int) < 9223372036854775807 by omega), rm_few2 (show out.length + 1 ≤ 2000000 by omega) (show 16 ≤ 1024 by omega), cond_true, need_true, impl_fmt _ m1, impl_fmt _ m2, holdI_eq, Option.bind_some, f1, f2, f3]
      rfl)
    (fun out => by simp only [impl_StoryOf_l3, ge_ln (Nat.le_refl _), cond_false])
  have hp : ∀ x ∈ m.map handI, x.count 43 = 1 := fun x hx => by
    obtain ⟨y, _, rfl⟩ := List.mem_map.1 hx
    exact handI_plus y
  unfold impl_StoryOf
  rw [e2]
  simp only [Option.bind_some]
  rw [hi]
  simp only [Option.bind_some]
  by_cases h0 : m.length = 0
  · rw [decide_eq_true (show ln (m.map handI) = 0 by rw [ln_eq]; simp [h0])]
    exact ⟨[45], rfl, by rw [h0]; decide, by simp, by simp [h0]⟩
  · rw [decide_eq_false (show ¬ ln (m.map handI) = 0 by rw [ln_eq]; simp; intro h; exact h0 (by simp [h])), strs_join _ hsh]
    have hc := join_plus _ hp
    rw [List.length_map] at hc
    have hb := join_len [32] rfl _ hsh.2
    rw [List.length_map] at hb
    refine ⟨_, rfl, hc, by omega, fun h => ?_, fun h => absurd h h0⟩
    rw [h] at hc
    exact hc.symm.trans (by decide)
/-- The signs, counted by a loop. -/
theorem plus_run (c : List Int) (a : List Hand) (a2 : Int) (s : List UInt8) (a4 : List Hand) (hs : s.length ≤ 300000000) : run (laws_FnStories_l8 c a a2 s a4) (0, 0) = some (s.count 43 : Int) := by
  have := run_traj (step := laws_FnStories_l8 c a a2 s a4) (fun i => (((s.take i).count 43 : Int), (i : Int))) (r := (s.count 43 : Int)) s.length (fun i hi => by
    have hc := List.count_le_length (a := (43 : UInt8)) (l := s.take i)
    have hlen := List.length_take_le i s
    simp only [laws_FnStories_l8, lt_ln hi, inb_n hi, gt_n hi, cond_true, need_true, w64_n (show (i : Int) < 9223372036854775807 by omega)]
    rw [List.take_succ_eq_append_getElem hi, List.count_append]
    by_cases h : s[i] = 43
    · rw [h]
      rw [decide_eq_true (show (((43 : UInt8).toNat : Int) = 43) from rfl), w64_in (by omega) (by omega)]
      rfl
    · have hn : ¬ ((s[i].toNat : Int) = 43) := fun h' => h (by
        have h2 : s[i].toNat = 43 := by omega
        have h3 := UInt8.ofNat_toNat (x := s[i])
        rw [h2] at h3
        exact h3.symm)
      rw [decide_eq_false hn, List.count_singleton, show (s[i] == 43) = false from by simpa using h]
      simp) (by simp only [laws_FnStories_l8, ge_ln (Nat.le_refl _), cond_false, List.take_length])
  simpa using this
/-- Where a thing ends. -/
theorem lastIx_none (l : List Hand) (t : Int) : ∀ n, n ≤ l.length → (lastIx l t n = -1 ↔ ∀ x ∈ l.take n, ¬ x.Thing = t)
  | 0, _ => by simp [lastIx]
  | n + 1, hn => by
    have ih := lastIx_none l t n (by omega)
    rw [List.take_succ_eq_append_getElem (show n < l.length by omega)]
    unfold lastIx
    rw [gt_n (show n < l.length by omega)]
    by_cases h : l[n].Thing = t
    · rw [if_pos h]
      refine ⟨fun h' => by omega, fun h' => absurd h (h' _ (List.mem_append_right _ (List.mem_singleton.2 rfl)))⟩
    · rw [if_neg h, ih]
      refine ⟨fun h' x hx => ?_, fun h' x hx => h' x (List.mem_append_left _ hx)⟩
      rcases List.mem_append.1 hx with hx | hx
      · exact h' x hx
      · rw [List.mem_singleton.1 hx]; exact h
theorem endI (l : List Hand) (t : Int) (hl : l.length ≤ 1048576) : ∃ s, impl_EndOf l t = some s ∧ (s = [45] ↔ (l.filter fun x => decide (x.Thing = t)).length = 0) := by
  have e := lastHandC l t l.length (Nat.le_refl _) hl
  rw [show cut l 0 (l.length : Int) = l from by unfold cut; simp] at e
  have hno := lastIx_none l t l.length (Nat.le_refl _)
  rw [List.take_length] at hno
  have hf : (l.filter fun x => decide (x.Thing = t)).length = 0 ↔ ∀ x ∈ l, ¬ x.Thing = t := by
    rw [List.length_eq_zero_iff, List.filter_eq_nil_iff]; simp
  unfold impl_EndOf
  rw [e]
  simp only [Option.bind_some]
  rcases lastIx_in l t l.length with h | ⟨j, hj, h⟩
  · rw [h]
    exact ⟨[45], rfl, fun _ => hf.2 (hno.1 h), fun _ => rfl⟩
  · rw [h, decide_eq_false (show ¬ (j : Int) < 0 by omega), inb_n hj, gt_n hj, holdI_eq]
    refine ⟨holdI l[j].Holder, rfl, fun h' => absurd h' (holdI_ne _), fun h' => ?_⟩
    have := hno.2 (hf.1 h')
    omega
/-- Travels. -/
theorem travelI (l : List Hand) (t : Int) (hl0 : l.length ≤ 1048576) : ∃ n, impl_TravelCount l t = some n ∧ n ≤ ((l.filter fun x => decide (x.Thing = t)).length : Int) := by
  have e2 := handsOfI l t hl0
  have hl : (l.filter fun x => decide (x.Thing = t)).length ≤ 1048576 := Nat.le_trans (List.length_filter_le _ _) hl0
  generalize l.filter (fun x => decide (x.Thing = t)) = m at e2 hl
  have key : ∀ (d k : Nat) (n : Int), k + 1 + d = m.length ∨ (m.length = 0 ∧ d = 0 ∧ k = 0) → 0 ≤ n → n ≤ (k : Int) → ∃ r, run (impl_TravelCount_l4 m) (n, ((k + 1 : Nat) : Int)) = some r ∧ r ≤ (m.length : Int) := by
    intro d
    induction d with
    | zero =>
      intro k n hk h0 h1
      refine ⟨n, ?_, by rcases hk with hk | hk <;> omega⟩
      rw [run_eq]; simp only [impl_TravelCount_l4, ge_ln (show m.length ≤ k + 1 by rcases hk with hk | hk <;> omega), cond_false, Option.bind_some]
    | succ d ih =>
      intro k n hk h0 h1
      have hk : k + 1 + (d + 1) = m.length := by rcases hk with hk | hk <;> omega
      have hlt : k + 1 < m.length := by omega
      have ew : w64 (((k + 1 : Nat) : Int) - 1) = (k : Int) := by rw [w64_in] <;> omega
      rw [run_eq]
      simp only [impl_TravelCount_l4, lt_ln hlt, inb_n hlt, gt_n hlt, ew, inb_n (show k < m.length by omega), cond_true, need_true, w64_n (show ((k + 1 : Nat) : Int) < 9223372036854775807 by omega)]
      have t1 := ih (k + 1) (n + 1) (.inl (by omega)) (by omega) (by omega)
      have t2 := ih (k + 1) n (.inl (by omega)) h0 (by omega)
      have ew2 : w64 (n + 1) = n + 1 := w64_in (by omega) (by omega)
      cases decide (m[k + 1].Holder = 2) with
      | false => simp only [cond_false, Option.bind_some]; exact t2
      | true =>
        simp only [cond_true, Option.bind_some]
        cases decide ((gt m (k : Int)).Holder = 2) with
        | true => simp only [cond_true, Option.bind_some, ew2]; exact t1
        | false => simp only [cond_false, Option.bind_some]; exact t2
  obtain ⟨r, r1, r2⟩ := key (m.length - 1) 0 0 (by omega) (Int.le_refl _) (Int.le_refl _)
  refine ⟨r, ?_, r2⟩
  unfold impl_TravelCount
  rw [e2]
  simp only [Option.bind_some]
  rw [show run (impl_TravelCount_l4 m) (0, 1) = some r from r1]; rfl
/-- Hours of stay. -/
theorem sortedI (l : List Hand) (h : ∀ k (h : k < l.length), 0 ≤ l[k].At ∧ l[k].At ≤ 100000 ∧ ∀ (h' : 0 < k), (l[k - 1]'(by omega)).At ≤ l[k].At) : l.Pairwise (fun x y => x.At ≤ y.At) := by
  have key : ∀ (d i : Nat) (hj : i + d < l.length), (l[i]'(by omega)).At ≤ l[i + d].At := by
    intro d
    induction d with
    | zero => intro i hj; exact Int.le_refl _
    | succ d ih =>
      intro i hj
      have h1 := ih i (by omega)
      have h2 := (h (i + (d + 1)) hj).2.2 (by omega)
      have e : (l[i + (d + 1) - 1]'(by omega)) = l[i + d] := by congr 1
      rw [e] at h2
      omega
  rw [List.pairwise_iff_getElem]
  intro i j hi hj hij
  have := key (j - i) i (by omega)
  have e : (l[i + (j - i)]'(by omega)) = l[j] := by congr 1; omega
  rw [e] at this
  exact this
theorem stayI (l : List Hand) (t now : Int) (hl0 : l.length ≤ 1048576) : ∃ n, impl_StayHours l t now = some n ∧ 0 ≤ n ∧ (n = 0 ∨ n ≤ now) := by
  have e2 := handsOfI l t hl0
  obtain ⟨b, _, b2, b3⟩ := isChain l
  unfold impl_StayHours impl_InRange
  rw [b2, e2]
  cases b with
  | false => exact ⟨0, rfl, Int.le_refl _, .inl rfl⟩
  | true =>
    simp only [Option.bind_some, Bool.not_true, cond_false]
    cases hd : (decide (0 ≤ now) && decide (now ≤ 100000)) with
    | false => exact ⟨0, rfl, Int.le_refl _, .inl rfl⟩
    | true =>
      simp only [Bool.and_eq_true, decide_eq_true_eq] at hd
      obtain ⟨hn0, hn1⟩ := hd
      simp only [Bool.not_true, cond_false]
      obtain ⟨hl, hall⟩ := b3 rfl
      have hs := (sortedI l hall).filter (fun x => decide (x.Thing = t))
      have hb : ∀ x ∈ l.filter (fun x => decide (x.Thing = t)), 0 ≤ x.At ∧ x.At ≤ 100000 := by
        intro x hx
        obtain ⟨k, hk, rfl⟩ := List.getElem_of_mem (List.mem_filter.1 hx).1
        exact ⟨(hall k hk).1, (hall k hk).2.1⟩
      have hm : (l.filter fun x => decide (x.Thing = t)).length ≤ 100 := Nat.le_trans (List.length_filter_le _ _) hl
      generalize l.filter (fun x => decide (x.Thing = t)) = m at hs hb hm
      -- n is at most min now (the hour of the next hand)
      have key : ∀ (d k : Nat) (n : Int), k + d = m.length → 0 ≤ n → (n = 0 ∨ n ≤ now) → (∀ hk : k < m.length, n ≤ m[k].At) → ∃ r, run (impl_StayHours_l6 now m (ln m)) (n, (k : Int)) = some r ∧ 0 ≤ r ∧ (r = 0 ∨ r ≤ now) := by
        intro d
        induction d with
        | zero =>
          intro k n hk h0 h1 h2
          have : k = m.length := by omega
          subst this
          exact ⟨n, by rw [run_eq]; simp only [impl_StayHours_l6, ge_ln (Nat.le_refl _), cond_false, Option.bind_some], h0, h1⟩
        | succ d ih =>
          intro k n hk h0 h1 h2
          have hlt : k < m.length := by omega
          have hx := hb m[k] (List.getElem_mem hlt)
          have h2 := h2 hlt
          have nxt : ∀ hk : k + 1 < m.length, m[k].At ≤ m[k + 1].At := fun hk => List.pairwise_iff_getElem.1 hs k (k + 1) hlt hk (by omega)
          rw [run_eq]
          simp only [impl_StayHours_l6, lt_ln hlt, inb_n hlt, gt_n hlt, cond_true, need_true, w64_n (show (k : Int) < 9223372036854775807 by omega)]
          cases hc : (!decide (m[k].Holder = 2) || decide (now < m[k].At)) with
          | true => exact ih (k + 1) n (by omega) h0 h1 (fun hk => by have := nxt hk; omega)
          | false =>
            simp only [Bool.or_eq_false_iff, decide_eq_false_iff_not] at hc
            simp only [cond_false]
            by_cases hlast : k + 1 < m.length
            · have hy := hb m[k + 1] (List.getElem_mem hlast)
              have := nxt hlast
              simp only [lt_ln hlast, inb_n hlast, gt_n hlast, cond_true, need_true]
              have hu : ∃ u : Int, (if m[k + 1].At < now then m[k + 1].At else now) = u ∧ m[k].At ≤ u ∧ u ≤ now ∧ u ≤ m[k + 1].At ∧ u ≤ 100000 := ⟨_, rfl, by split <;> omega, by split <;> omega, by split <;> omega, by split <;> omega⟩
              obtain ⟨u, eu, u1, u2, u3, u4⟩ := hu
              rw [eu, w64_in (n := u - m[k].At) (by omega) (by omega), w64_in (n := n + (u - m[k].At)) (by omega) (by omega)]
              exact ih (k + 1) (n + (u - m[k].At)) (by omega) (by omega) (.inr (by omega)) (fun _ => by omega)
            · rw [ge_ln (show m.length ≤ k + 1 by omega)]
              simp only [cond_false]
              rw [w64_in (n := now - m[k].At) (by omega) (by omega), w64_in (n := n + (now - m[k].At)) (by omega) (by omega)]
              exact ih (k + 1) (n + (now - m[k].At)) (by omega) (by omega) (.inr (by omega)) (fun hk => absurd hk hlast)
      obtain ⟨r, r1, r2, r3⟩ := key m.length 0 0 (by omega) (Int.le_refl _) (.inl rfl) (fun hk => (hb _ (List.getElem_mem hk)).1)
      exact ⟨r, by rw [show run (impl_StayHours_l6 now m (ln m)) (0, 0) = some r from r1]; rfl, r2, r3⟩
end Go.Proofs.YtidclodlpdccaaaDoor
