/- Plain laws of the typed functions. No condition. -/
import Derived.Test.YtkbilciipmijjaaGreatDoorFn
import Derived.Test.YtkbilciipmijjaaGreatDoorPl
import Derived.Lib.ItoaLen
import Derived.Test.YtkbilciipmijjaaGreatDoorPz3
import Derived.Test.YtkbilciipmijjaaGreatDoorPz2
/- Numbers as texts, and texts joined, of the program alone. No condition but the length. -/
namespace Go.Proofs.YtkbilciipmijjaaGreatDoor
open Go
set_option linter.unusedVariables false
set_option linter.unusedSimpArgs false
theorem sfit_ok {x y : List UInt8} (hx : x.length ≤ 1000000000000) (hy : y.length ≤ 1000000000000) : sfit x y = true := by
  unfold sfit; exact decide_eq_true (by omega)
theorem scat_len (x y : List UInt8) : (scat x y).length = x.length + y.length := by simp [scat]
theorem impl_fmt (n : Int) (h : i64 n) : impl_FormatInt n = some (Lib.itoa n) := by
  unfold i64 at h
  unfold impl_FormatInt strconv_Itoa
  rw [decide_eq_true h.1, decide_eq_true h.2]; rfl
theorem itoa_len (n : Int) (h : i64 n) : (Lib.itoa n).length ≤ 21 := Lib.itoa_length_le n h.1 h.2
/-- Texts with spaces between them. -/
def short (L : List (List UInt8)) : Prop := L.length ≤ 1048576 ∧ ∀ x ∈ L, x.length ≤ 200
theorem joinTail_len (sep : List UInt8) (hsep : sep.length = 1) : ∀ (L : List (List UInt8)), (∀ x ∈ L, x.length ≤ 200) → (Lib.joinTail sep L).length ≤ L.length * 201
  | [], _ => by simp [Lib.joinTail]
  | x :: L, h => by
    have h1 := joinTail_len sep hsep L fun y hy => h y (by simp [hy])
    have h2 := h x (by simp)
    have e : Lib.joinTail sep (x :: L) = sep ++ x ++ Lib.joinTail sep L := by simp [Lib.joinTail]
    rw [e]
    simp only [List.length_append, List.length_cons, hsep]
    omega
theorem join_len (sep : List UInt8) (hsep : sep.length = 1) : ∀ (L : List (List UInt8)), (∀ x ∈ L, x.length ≤ 200) → (Lib.join L sep).length ≤ L.length * 201
  | [], _ => by rw [Lib.join_nil]; simp
  | x :: L, h => by
    rw [Lib.join_cons]
    have h1 := joinTail_len sep hsep L fun y hy => h y (by simp [hy])
    have h2 := h x (by simp)
    simp only [List.length_append, List.length_cons]
    omega
theorem strs_join (L : List (List UInt8)) (hL : short L) : strings_Join L [32] = some (Lib.join L [32]) := by
  have hb := join_len [32] rfl L hL.2
  have hl := hL.1
  unfold strings_Join
  rw [decide_eq_true (by omega), decide_eq_true (by omega)]; rfl
theorem run_map_texts {α : Type} (l : List α) (f : α → List UInt8) {step : List (List UInt8) × Int → Option ((List (List UInt8) × Int) ⊕ List (List UInt8))}
    (h1 : ∀ (i : Nat) (out : List (List UInt8)) (h : i < l.length), out.length ≤ i → step (out, (i : Int)) = some (.inl (out ++ [f l[i]], ((i + 1 : Nat) : Int)))) (h2 : ∀ out, step (out, (l.length : Int)) = some (.inr out)) :
    run step ([], 0) = some (l.map f) := by
  have := run_filter l (fun _ => true) f (step := step) (fun i out h ho => by rw [h1 i out h ho]; rfl) h2
  rw [this, List.filter_eq_self.2 (fun _ _ => rfl)]
theorem short_map {α : Type} {l : List α} {f : α → List UInt8} (hl : l.length ≤ 1048576) (h : ∀ x ∈ l, (f x).length ≤ 200) : short (l.map f) := by
  refine ⟨by rw [List.length_map]; exact hl, fun y hy => ?_⟩
  obtain ⟨x, hx, rfl⟩ := List.mem_map.1 hy
  exact h x hx
theorem fitS {x y : List UInt8} (hx : x.length ≤ 150) (hy : y.length ≤ 150) : sfit x y = true := sfit_ok (by omega) (by omega)
theorem one_len (c : UInt8) : ([c] : List UInt8).length ≤ 150 := by simp
theorem rm_few2 {n b : Nat} (hn : n ≤ 2000000) (hb : b ≤ 1024) : rm n b = true := by
  unfold rm
  refine decide_eq_true ?_
  have := Nat.mul_le_mul hn hb
  omega
end Go.Proofs.YtkbilciipmijjaaGreatDoor

/- Claims and slots that are drawn: the draw never fails, and their numbers fit. No condition but the length. -/
namespace Go.Proofs.YtkbilciipmijjaaGreatDoor
open Go
set_option linter.unusedVariables false
set_option linter.unusedSimpArgs false
def ck (x : Claim) : Prop := i64 x.Id ∧ i64 x.Who ∧ i64 x.Thing
theorem addClaim_mem {l : List Claim} {a : Claim} {r : List Claim × Bool} (h : spec_AddClaim l a = some r) : ∀ y ∈ r.1, y ∈ l ∨ y = a := by
  unfold spec_AddClaim at h
  obtain ⟨b, _, h⟩ := Option.bind_eq_some_iff.1 h
  obtain ⟨_, h⟩ := nd_someD h
  obtain ⟨_, h⟩ := nd_someD h
  obtain ⟨_, h⟩ := nd_someD h
  obtain ⟨_, h⟩ := nd_someD h
  obtain ⟨_, h⟩ := nd_someD h
  obtain ⟨b2, _, h⟩ := Option.bind_eq_some_iff.1 h
  cases b2 with
  | true =>
    simp only [cond_true] at h
    obtain ⟨_, h⟩ := nd_someD h
    injection h with h; subst h
    exact fun y hy => .inl hy
  | false =>
    simp only [cond_false] at h
    injection h with h; subst h
    intro y hy
    rcases List.mem_append.1 hy with hy | hy
    · rcases List.mem_append.1 hy with hy | hy
      · exact .inl (mem_cutD hy)
      · exact .inr (List.mem_singleton.1 hy)
    · exact .inl (mem_cutD hy)
theorem setState_mem {l : List Claim} {i s : Int} {r : List Claim × Bool} (h : spec_SetState l i s = some r) (hl : ∀ y ∈ l, ck y) : ∀ y ∈ r.1, ck y := by
  unfold spec_SetState at h
  obtain ⟨_, h⟩ := nd_someD h
  obtain ⟨k, _, h⟩ := Option.bind_eq_some_iff.1 h
  obtain ⟨b, _, h⟩ := Option.bind_eq_some_iff.1 h
  cases b with
  | true =>
    simp only [cond_true] at h
    injection h with h; subst h
    exact hl
  | false =>
    simp only [cond_false] at h
    obtain ⟨hin, h⟩ := nd_someD h
    obtain ⟨b2, _, h⟩ := Option.bind_eq_some_iff.1 h
    cases b2 with
    | true =>
      simp only [cond_true] at h
      obtain ⟨_, h⟩ := nd_someD h
      injection h with h; subst h
      exact hl
    | false =>
      simp only [cond_false] at h
      injection h with h; subst h
      intro y hy
      rcases mem_setD hy with hy | hy
      · exact hl y hy
      · rw [hy]; have hg := hl _ (gt_memD hin); exact ⟨hg.1, hg.2.1, hg.2.2⟩
theorem l13Draw_ok (c : l1Cur) (h : okC c) : ∃ c' l, spec_l13Draw c = some (c', l) ∧ okC c' ∧ l.length ≤ 1048576 ∧ ∀ y ∈ l, ck y := by
  have key : ∀ (m : Nat) (c : l1Cur) (l : List Claim) (i : Int), okC c → i + (m : Int) = 8 → 0 ≤ i → l.length ≤ 1048576 → (∀ y ∈ l, ck y) → ∃ c' l', run spec_l13Draw_l3 (c, l, i) = some (c', l') ∧ okC c' ∧ l'.length ≤ 1048576 ∧ ∀ y ∈ l', ck y := by
    intro m
    induction m with
    | zero =>
      intro c l i hc hi h0 hl hy
      obtain ⟨c1, x1, e1, k1, l1, u1⟩ := l1Below_ok c 8 hc
      have u1 := u1 (by omega)
      refine ⟨c1, l, ?_, k1, hl, hy⟩
      rw [run_eq]
      simp only [spec_l13Draw_l3, e1, Option.bind_some, decide_eq_false (show ¬ i ≤ x1 by omega), cond_false]
    | succ m ih =>
      intro c l i hc hi h0 hl hy
      obtain ⟨c1, x1, e1, k1, l1, u1⟩ := l1Below_ok c 8 hc
      obtain ⟨c2, x2, e2, k2, _⟩ := l1Below_ok c1 5 k1
      obtain ⟨c3, x3, e3, k3, _⟩ := l1Below_ok c2 3 k2
      obtain ⟨c4, x4, e4, k4, _⟩ := l1Below_ok c3 60 k3
      obtain ⟨r5, e5, _, n5, _⟩ := addClaim l (⟨w64 (2 * i), w64 (1 + x2), w64 (2 * (w64 (1 + x3))), x4, 0⟩ : Claim) hl
      have m5 := addClaim_mem e5
      obtain ⟨c6, x6, e6, k6, _⟩ := l1Below_ok c4 4 k4
      obtain ⟨r7, e7, _, n7⟩ := setState r5.1 (w64 (2 * i)) x6 n5
      have m7 := setState_mem e7 (fun y hy' => by
        rcases m5 y hy' with h | h
        · exact hy y h
        · rw [h]; exact ⟨w64_rng _, w64_rng _, w64_rng _⟩)
      rw [run_eq]
      simp only [spec_l13Draw_l3, e1, e2, e3, e4, e5, e6, e7, Option.bind_some, show w64 (i + 1) = i + 1 from w64_in (by omega) (by omega)]
      by_cases hd : i ≤ x1
      · rw [decide_eq_true hd]
        exact ih c6 r7.1 (i + 1) k6 (by omega) (by omega) (by rw [n7]; exact n5) m7
      · rw [decide_eq_false hd]
        exact ⟨c1, l, rfl, k1, hl, hy⟩
  obtain ⟨c', l', r1, r2, r3, r4⟩ := key 7 c [] 1 h (by omega) (by omega) (by simp) (by simp)
  exact ⟨c', l', by unfold spec_l13Draw; rw [r1]; rfl, r2, r3, r4⟩
theorem i64_small {x : Int} (h0 : -9223372036854775808 ≤ x) (h1 : x ≤ 9223372036854775807) : i64 x := ⟨h0, h1⟩
theorem i64_of_mem {x : Int} {l : List Int} (h : x ∈ l) (hl : ∀ y ∈ l, -9223372036854775808 ≤ y ∧ y ≤ 9223372036854775807) : i64 x := hl x h
theorem l13Any_ok (c : l1Cur) (h : okC c) : ∃ c' l, spec_l13Any c = some (c', l) ∧ okC c' ∧ l.length ≤ 1048576 ∧ ∀ y ∈ l, ck y := by
  obtain ⟨c1, l, e1, k1, n1, hy⟩ := l13Draw_ok c h
  unfold spec_l13Any
  rw [e1]
  simp only [Option.bind_some]
  by_cases h0 : l.length = 0
  · rw [decide_eq_true (show ln l = 0 by rw [ln_eq]; omega)]; exact ⟨c1, l, rfl, k1, n1, hy⟩
  · rw [decide_eq_false (show ¬ ln l = 0 by rw [ln_eq]; omega)]
    obtain ⟨c2, x2, e2, k2, l2, u2⟩ := l1Below_ok c1 (ln l) k1
    obtain ⟨c3, x3, e3, k3, _⟩ := l1Below_ok c2 10 k2
    have u2 := u2 (by rw [ln_eq]; omega)
    rw [ln_eq] at u2
    have hin : inb l x2 = true := by rw [inb_iff]; omega
    have hg := hy _ (gt_memD hin)
    obtain ⟨c4, x4, e4, k4, m4⟩ := l1Int_ok c3 [0, 2, 999, 1000] k3 (by simp)
    obtain ⟨c5, x5, e5, k5, m5⟩ := l4Raw_ok c3 k3
    obtain ⟨c6, x6, e6, k6, m6⟩ := l1Int_ok c3 [(-1), 100000, 100001] k3 (by simp)
    obtain ⟨c7, x7, e7, k7, m7⟩ := l1Int_ok c3 [(-1), 3, 4] k3 (by simp)
    have i4 : i64 x4 := i64_of_mem m4 (by decide)
    have ls : ∀ (n : Nat) (x : Claim), (l.set n x).length ≤ 1048576 := fun n x => by rw [List.length_set]; exact n1
    have st : ∀ (n : Nat) (x : Claim), ck x → ∀ y ∈ l.set n x, ck y := fun n x hx y hy' => by
      rcases mem_setD hy' with h | h
      · exact hy y h
      · rw [h]; exact hx
    simp only [e2, e3, e4, e5, e6, e7, hin, cond_false, Option.bind_some, need_true]
    cases decide (x3 = 0) with
    | true => exact ⟨_, _, rfl, k4, ls _ _, st _ _ ⟨i4, hg.2.1, hg.2.2⟩⟩
    | false =>
    cases decide (x3 = 1) with
    | true => exact ⟨_, _, rfl, k5, ls _ _, st _ _ ⟨hg.1, m5, hg.2.2⟩⟩
    | false =>
    cases decide (x3 = 2) with
    | true => exact ⟨_, _, rfl, k6, ls _ _, st _ _ ⟨hg.1, hg.2.1, hg.2.2⟩⟩
    | false =>
    cases decide (x3 = 3) with
    | true => exact ⟨_, _, rfl, k7, ls _ _, st _ _ ⟨hg.1, hg.2.1, hg.2.2⟩⟩
    | false => exact ⟨_, _, rfl, k3, n1, hy⟩
/-- Slots. -/
def sk (x : Slot) : Prop := i64 x.Id ∧ i64 x.Thing
theorem putAway_mem {l : List Slot} {a : Thing} {r : List Slot × Bool} (h : spec_PutAway l a = some r) (hl : ∀ y ∈ l, sk y) (ha : i64 a.Id) : ∀ y ∈ r.1, sk y := by
  unfold spec_PutAway at h
  obtain ⟨_, h⟩ := nd_someD h
  obtain ⟨k, _, h⟩ := Option.bind_eq_some_iff.1 h
  obtain ⟨b, _, h⟩ := Option.bind_eq_some_iff.1 h
  cases b with
  | true =>
    simp only [cond_true] at h
    injection h with h; subst h
    exact hl
  | false =>
    simp only [cond_false] at h
    obtain ⟨b2, hr, h⟩ := Option.bind_eq_some_iff.1 h
    injection h with h; subst h
    refine run_invD (fun s => ∀ y ∈ s.1, sk y) (fun o => ∀ y ∈ o, sk y) (fun s s' hI hs => ?_) (fun s r hI hs => ?_) (s := (l, 0)) hl hr
    · obtain ⟨o, i⟩ := s
      simp only [spec_PutAway_l6] at hs
      cases hd : decide (i < ln o) with
      | false => rw [hd] at hs; cases hs
      | true =>
        rw [hd] at hs
        obtain ⟨hin, hs⟩ := nd_someD hs
        cases he : decide ((gt o i).Id = k) with
        | true =>
          rw [he] at hs
          injection hs with hs; injection hs with hs; subst hs
          intro y hy
          rcases mem_setD hy with h | h
          · exact hI y h
          · rw [h]; exact ⟨(hI _ (gt_memD hin)).1, ha⟩
        | false =>
          rw [he] at hs
          injection hs with hs; injection hs with hs; subst hs
          exact hI
    · obtain ⟨o, i⟩ := s
      simp only [spec_PutAway_l6] at hs
      cases hd : decide (i < ln o) with
      | false =>
        rw [hd] at hs
        injection hs with hs; injection hs with hs; subst hs
        exact hI
      | true =>
        rw [hd] at hs
        obtain ⟨hin, hs⟩ := nd_someD hs
        cases he : decide ((gt o i).Id = k) <;> rw [he] at hs <;> cases hs
theorem l14Draw_ok (c : l1Cur) (h : okC c) : ∃ c' l, spec_l14Draw c = some (c', l) ∧ okC c' ∧ 0 < l.length ∧ l.length ≤ 100 ∧ ∀ y ∈ l, sk y := by
  have key : ∀ (m : Nat) (c : l1Cur) (l : List Slot) (i : Int), okC c → i + (m : Int) = 9 → 0 ≤ i → l.length + m ≤ 100 → (1 < i → 0 < l.length) → (∀ y ∈ l, sk y) → ∃ c' l', run spec_l14Draw_l3 (c, l, i) = some (c', l') ∧ okC c' ∧ 0 < l'.length ∧ l'.length ≤ 100 ∧ ∀ y ∈ l', sk y := by
    intro m
    induction m with
    | zero =>
      intro c l i hc hi h0 hl hp hy
      obtain ⟨c1, x1, e1, k1, l1, u1⟩ := l1Below_ok c 7 hc
      have u1 := u1 (by omega)
      refine ⟨c1, l, ?_, k1, hp (by omega), by omega, hy⟩
      rw [run_eq]
      simp only [spec_l14Draw_l3, e1, Option.bind_some, show w64 (2 + x1) = 2 + x1 from w64_in (by omega) (by omega), decide_eq_false (show ¬ i ≤ 2 + x1 by omega), cond_false]
    | succ m ih =>
      intro c l i hc hi h0 hl hp hy
      obtain ⟨c1, x1, e1, k1, l1, u1⟩ := l1Below_ok c 7 hc
      have u1 := u1 (by omega)
      obtain ⟨c2, x2, e2, k2, _⟩ := l1Below_ok c1 6 k1
      rw [run_eq]
      simp only [spec_l14Draw_l3, e1, e2, Option.bind_some, show w64 (2 + x1) = 2 + x1 from w64_in (by omega) (by omega), rm_ok (show l.length + 1 ≤ 2000000 by omega) (show 24 ≤ 1024 by omega), need_true, show w64 (i + 1) = i + 1 from w64_in (by omega) (by omega)]
      by_cases hd : i ≤ 2 + x1
      · rw [decide_eq_true hd]
        exact ih c2 _ (i + 1) k2 (by omega) (by omega) (by simp; omega) (fun _ => by simp) (fun y hy' => by
          rcases List.mem_append.1 hy' with h | h
          · exact hy y h
          · rw [List.mem_singleton.1 h]; exact ⟨i64_small (by simp only; omega) (by simp only; omega), i64_small (by simp) (by simp)⟩)
      · rw [decide_eq_false hd]
        exact ⟨c1, l, rfl, k1, hp (by omega), by omega, hy⟩
  have key2 : ∀ (m : Nat) (c : l1Cur) (l : List Slot), m ≤ 1000 → okC c → 0 < l.length → l.length ≤ 100 → (∀ y ∈ l, sk y) → ∃ c' l', run spec_l14Draw_l7 (c, l, (m : Int)) = some (c', l') ∧ okC c' ∧ 0 < l'.length ∧ l'.length ≤ 100 ∧ ∀ y ∈ l', sk y := by
    intro m
    induction m with
    | zero =>
      intro c l hm hc hp hl hy
      exact ⟨c, l, by rw [run_eq]; simp only [spec_l14Draw_l7, show decide ((0 : Int) < ((0 : Nat) : Int)) = false from rfl, cond_false, Option.bind_some], hc, hp, hl, hy⟩
    | succ m ih =>
      intro c l hm hc hp hl hy
      obtain ⟨c1, x1, e1, k1, _⟩ := l1Below_ok c 20 hc
      obtain ⟨c2, x2, e2, k2, q2⟩ := l4Draw_ok c1 (w64 (1 + x1)) k1
      obtain ⟨r3, e3, _, n3⟩ := putAway l x2 (by omega)
      have m3 := putAway_mem e3 hy (by rw [q2]; exact w64_rng _)
      obtain ⟨c', l', r1, r2⟩ := ih c2 r3.1 (by omega) k2 (by omega) (by omega) m3
      refine ⟨c', l', ?_, r2⟩
      rw [run_eq]
      simp only [spec_l14Draw_l7, decide_eq_true (show (0 : Int) < ((m + 1 : Nat) : Int) by omega), e1, e2, e3, cond_true, Option.bind_some, show w64 (((m + 1 : Nat) : Int) - 1) = (m : Int) from by rw [w64_in] <;> omega]
      exact r1
  obtain ⟨c1, l1, r1, k1, p1, n1, hy1⟩ := key 8 c [] 1 h (by omega) (by omega) (by simp) (fun h => by omega) (by simp)
  obtain ⟨c2, x2, e2, k2, l2, u2⟩ := l1Below_ok c1 5 k1
  have u2 := u2 (by omega)
  obtain ⟨k, rfl⟩ : ∃ k : Nat, x2 = (k : Int) := ⟨x2.toNat, by omega⟩
  obtain ⟨c3, l3, r3, q3⟩ := key2 k c2 l1 (by omega) k2 p1 n1 hy1
  exact ⟨c3, l3, by unfold spec_l14Draw; rw [r1]; simp only [Option.bind_some, e2]; rw [r3]; rfl, q3⟩
theorem l14Any_ok (c : l1Cur) (h : okC c) : ∃ c' l, spec_l14Any c = some (c', l) ∧ okC c' ∧ l.length ≤ 100 ∧ ∀ y ∈ l, sk y := by
  obtain ⟨c1, l, e1, k1, p1, n1, hy⟩ := l14Draw_ok c h
  obtain ⟨c2, x2, e2, k2, l2, u2⟩ := l1Below_ok c1 (ln l) k1
  obtain ⟨c3, x3, e3, k3, _⟩ := l1Below_ok c2 10 k2
  have u2 := u2 (by rw [ln_eq]; omega)
  rw [ln_eq] at u2
  have hin : inb l x2 = true := by rw [inb_iff]; omega
  have hin0 : inb l 0 = true := by rw [inb_iff]; omega
  have hg := hy _ (gt_memD hin)
  have hg0 := hy _ (gt_memD hin0)
  obtain ⟨c4, x4, e4, k4, m4⟩ := l1Int_ok c3 [0, 1, 99, 100] k3 (by simp)
  obtain ⟨c5, x5, e5, k5, m5⟩ := l4Raw_ok c3 k3
  obtain ⟨c6, x6, e6, k6, m6⟩ := l1Int_ok c3 [(-1), 999, 1000] k3 (by simp)
  have i4 : i64 x4 := i64_of_mem m4 (by decide)
  have i6 : i64 x6 := i64_of_mem m6 (by decide)
  have ls : ∀ (n : Nat) (x : Slot), (l.set n x).length ≤ 100 := fun n x => by rw [List.length_set]; exact n1
  have st : ∀ (n : Nat) (x : Slot), sk x → ∀ y ∈ l.set n x, sk y := fun n x hx y hy' => by
    rcases mem_setD hy' with h | h
    · exact hy y h
    · rw [h]; exact hx
  unfold spec_l14Any
  simp only [e1, e2, e3, e4, e5, e6, hin, hin0, Option.bind_some, need_true]
  cases decide (x3 = 0) with
  | true => exact ⟨_, _, rfl, k4, ls _ _, st _ _ ⟨i4, hg.2⟩⟩
  | false =>
  cases decide (x3 = 1) with
  | true => exact ⟨_, _, rfl, k5, ls _ _, st _ _ ⟨hg.1, hg.2⟩⟩
  | false =>
  cases decide (x3 = 2) with
  | true => exact ⟨_, _, rfl, k6, ls _ _, st _ _ ⟨hg.1, i6⟩⟩
  | false =>
  cases decide (x3 = 3) with
  | true => exact ⟨_, _, rfl, k3, ls _ _, st _ _ ⟨hg.1, hg0.2⟩⟩
  | false => exact ⟨_, _, rfl, k3, n1, hy⟩
end Go.Proofs.YtkbilciipmijjaaGreatDoor

/- Houses of all kinds that are drawn: the draw never fails, and they are small. No condition but the length. -/
namespace Go.Proofs.YtkbilciipmijjaaGreatDoor
open Go
set_option linter.unusedVariables false
set_option linter.unusedSimpArgs false
theorem l6List_ok (c : l1Cur) (h : okC c) : ∃ c' l, spec_l6List c = some (c', l) ∧ okC c' ∧ l.length ≤ 100 := by
  have key : ∀ (m : Nat) (c : l1Cur) (l : List Find) (i : Int), okC c → i + (m : Int) = 8 → 0 ≤ i → l.length + m ≤ 100 → ∃ c' l', run spec_l6List_l3 (c, l, i) = some (c', l') ∧ okC c' ∧ l'.length ≤ 100 := by
    intro m
    induction m with
    | zero =>
      intro c l i hc hi h0 hl
      obtain ⟨c1, x1, e1, k1, l1, u1⟩ := l1Below_ok c 8 hc
      have u1 := u1 (by omega)
      refine ⟨c1, l, ?_, k1, by omega⟩
      rw [run_eq]
      simp only [spec_l6List_l3, e1, Option.bind_some, decide_eq_false (show ¬ i ≤ x1 by omega), cond_false]
    | succ m ih =>
      intro c l i hc hi h0 hl
      obtain ⟨c1, x1, e1, k1, l1, u1⟩ := l1Below_ok c 8 hc
      obtain ⟨c2, x2, e2, k2⟩ := l6Draw_ok c1 (w64 (2 * i)) k1
      rw [run_eq]
      simp only [spec_l6List_l3, e1, e2, Option.bind_some, rm_ok (show l.length + 1 ≤ 2000000 by omega) (show 64 ≤ 1024 by omega), need_true, show w64 (i + 1) = i + 1 from w64_in (by omega) (by omega)]
      by_cases hd : i ≤ x1
      · rw [decide_eq_true hd]
        exact ih c2 _ (i + 1) k2 (by omega) (by omega) (by simp; omega)
      · rw [decide_eq_false hd]
        exact ⟨c1, l, rfl, k1, by omega⟩
  obtain ⟨c', l', r1, r2, r3⟩ := key 7 c [] 1 h (by omega) (by omega) (by simp)
  exact ⟨c', l', by unfold spec_l6List; rw [r1]; rfl, r2, r3⟩
theorem l4Any_ok (c : l1Cur) (h : okC c) : ∃ c' x, spec_l4Any c = some (c', x) ∧ okC c' := by
  obtain ⟨c1, x1, e1, k1, _⟩ := l1Below_ok c 40 h
  obtain ⟨c2, x2, e2, k2, _⟩ := l4Draw_ok c1 (w64 (1 + x1)) k1
  obtain ⟨c3, x3, e3, k3, _⟩ := l1Below_ok c2 14 k2
  obtain ⟨c4, x4, e4, k4, _⟩ := l1Int_ok c3 [0, 999, 1000] k3 (by simp)
  obtain ⟨c5, x5, e5, k5, _⟩ := l1Int_ok c3 [0, 8, 9] k3 (by simp)
  obtain ⟨c6, x6, e6, k6, _⟩ := l1Int_ok c3 [(-1), 7, 8] k3 (by simp)
  obtain ⟨c7, x7, e7, k7, _⟩ := l4Raw_ok c3 k3
  obtain ⟨c8, x8, e8, k8, _⟩ := l1Int_ok c3 [(-1), 10000000, 10000001] k3 (by simp)
  unfold spec_l4Any
  simp only [e1, e2, e3, e4, e5, e6, e7, e8, Option.bind_some]
  cases decide (x3 = 0) with
  | true => exact ⟨_, _, rfl, k4⟩
  | false =>
  cases decide (x3 = 1) with
  | true => exact ⟨_, _, rfl, k5⟩
  | false =>
  cases decide (x3 = 2) with
  | true => exact ⟨_, _, rfl, k6⟩
  | false =>
  cases decide (x3 = 3) with
  | true => exact ⟨_, _, rfl, k7⟩
  | false =>
  cases decide (x3 = 4) with
  | true => exact ⟨_, _, rfl, k8⟩
  | false => exact ⟨_, _, rfl, k3⟩
theorem l6Any_ok (c : l1Cur) (h : okC c) : ∃ c' l, spec_l6Any c = some (c', l) ∧ okC c' ∧ l.length ≤ 100 := by
  obtain ⟨c1, l, e1, k1, n1⟩ := l6List_ok c h
  unfold spec_l6Any
  rw [e1]
  simp only [Option.bind_some]
  by_cases h0 : l.length = 0
  · rw [decide_eq_true (show ln l = 0 by rw [ln_eq]; omega)]; exact ⟨c1, l, rfl, k1, n1⟩
  · rw [decide_eq_false (show ¬ ln l = 0 by rw [ln_eq]; omega)]
    obtain ⟨c2, x2, e2, k2, l2, u2⟩ := l1Below_ok c1 (ln l) k1
    obtain ⟨c3, x3, e3, k3, _⟩ := l1Below_ok c2 12 k2
    have u2 := u2 (by rw [ln_eq]; omega)
    rw [ln_eq] at u2
    have hin : inb l x2 = true := by rw [inb_iff]; omega
    obtain ⟨c4, x4, e4, k4⟩ := l4Any_ok c3 k3
    obtain ⟨c5, x5, e5, k5, _⟩ := l1Int_ok c3 [0, 30, 31] k3 (by simp)
    obtain ⟨c6, x6, e6, k6, _⟩ := l4Raw_ok c3 k3
    obtain ⟨c7, x7, e7, k7, _⟩ := l1Int_ok c3 [(-1), 999, 1000] k3 (by simp)
    have ls : ∀ (n : Nat) (x : Find), (l.set n x).length ≤ 100 := fun n x => by rw [List.length_set]; exact n1
    simp only [e2, e3, e4, e5, e6, e7, hin, cond_false, Option.bind_some, need_true]
    cases decide (x3 = 0) with
    | true => exact ⟨_, _, rfl, k4, ls _ _⟩
    | false =>
    cases decide (x3 = 1) with
    | true => exact ⟨_, _, rfl, k5, ls _ _⟩
    | false =>
    cases decide (x3 = 2) with
    | true => exact ⟨_, _, rfl, k6, ls _ _⟩
    | false =>
    cases decide (x3 = 3) with
    | true => exact ⟨_, _, rfl, k7, ls _ _⟩
    | false => exact ⟨_, _, rfl, k3, n1⟩
theorem l29Any_ok (c : l1Cur) (h : okC c) : ∃ c' l, spec_l29Any c = some (c', l) ∧ okC c' ∧ l.length ≤ 1048576 := by
  have key : ∀ (m : Nat) (c : l1Cur) (l : List Entry) (a : Int), m ≤ 1000 → okC c → l.length ≤ 1048576 → ∃ c' l', run spec_l29Any_l4 (c, l, a, (m : Int)) = some (c', l') ∧ okC c' ∧ l'.length ≤ 1048576 := by
    intro m
    induction m with
    | zero =>
      intro c l a hm hc hl
      exact ⟨c, l, by rw [run_eq]; simp only [spec_l29Any_l4, show decide ((0 : Int) < ((0 : Nat) : Int)) = false from rfl, cond_false, Option.bind_some], hc, hl⟩
    | succ m ih =>
      intro c l a hm hc hl
      obtain ⟨c1, x1, e1, k1, _⟩ := l1Below_ok c 4 hc
      obtain ⟨c2, x2, e2, k2, _⟩ := l1Below_ok c1 4 k1
      obtain ⟨c3, x3, e3, k3, _⟩ := l1Below_ok c2 500 k2
      obtain ⟨r4, e4, _, n4⟩ := addEntry l (⟨x1, x2, w64 (1 + x3), a⟩ : Entry) hl
      obtain ⟨c5, x5, e5, k5, _⟩ := l1Below_ok c3 9 k3
      obtain ⟨c', l', r1, r2⟩ := ih c5 r4.1 (w64 (a + x5)) (by omega) k5 n4
      refine ⟨c', l', ?_, r2⟩
      rw [run_eq]
      simp only [spec_l29Any_l4, decide_eq_true (show (0 : Int) < ((m + 1 : Nat) : Int) by omega), e1, e2, e3, e4, e5, cond_true, Option.bind_some, show w64 (((m + 1 : Nat) : Int) - 1) = (m : Int) from by rw [w64_in] <;> omega]
      exact r1
  obtain ⟨c1, x1, e1, k1, l1, u1⟩ := l1Below_ok c 8 h
  have u1 := u1 (by omega)
  obtain ⟨k, rfl⟩ : ∃ k : Nat, x1 = (k : Int) := ⟨x1.toNat, by omega⟩
  obtain ⟨c2, l, r2, k2, n2⟩ := key k c1 [] 0 (by omega) k1 (by simp)
  unfold spec_l29Any
  simp only [e1, Option.bind_some]
  rw [r2]
  simp only [Option.bind_some]
  by_cases h0 : 0 < ln l
  · rw [decide_eq_true h0]
    obtain ⟨c3, x3, e3, k3, l3, u3⟩ := l1Below_ok c2 (ln l) k2
    have u3 := u3 h0
    rw [ln_eq] at u3
    have hin : inb l x3 = true := by rw [inb_iff]; omega
    obtain ⟨c4, x4, e4, k4, _⟩ := l1Below_ok c3 12 k3
    obtain ⟨c5, x5, e5, k5, _⟩ := l1Int_ok c4 [(-1), 999, 1000] k4 (by simp)
    obtain ⟨c6, x6, e6, k6, _⟩ := l1Int_ok c4 [0, 10000000, 10000001] k4 (by simp)
    obtain ⟨c7, x7, e7, k7, _⟩ := l4Raw_ok c4 k4
    have ls : ∀ (n : Nat) (x : Entry), (l.set n x).length ≤ 1048576 := fun n x => by rw [List.length_set]; exact n2
    simp only [e3, e4, e5, e6, e7, hin, cond_true, Option.bind_some, need_true]
    cases decide (x4 = 0) with
    | true => exact ⟨_, _, rfl, k5, ls _ _⟩
    | false =>
    cases decide (x4 = 1) with
    | true => exact ⟨_, _, rfl, k6, ls _ _⟩
    | false =>
    cases decide (x4 = 2) with
    | true => exact ⟨_, _, rfl, k7, ls _ _⟩
    | false => exact ⟨_, _, rfl, k4, n2⟩
  · rw [decide_eq_false h0]; exact ⟨c2, l, rfl, k2, n2⟩
theorem cutLen {A : Type} (l : List A) (a b : Int) : (cut l a b).length ≤ l.length := by
  unfold cut; simp; omega
theorem putMark_ok (l : List Mark) (m : Mark) (hl : l.length ≤ 1000) : ∃ l' b, spec_PutMark l m = some (l', b) ∧ l'.length ≤ l.length + 1 := by
  have key : ∀ (d k : Nat), k + d = l.length → ∃ r : Nat, run (spec_PutMark_l2 l m) (k : Int) = some (r : Int) ∧ r ≤ l.length := by
    intro d
    induction d with
    | zero =>
      intro k hk
      have : k = l.length := by omega
      subst this
      exact ⟨l.length, by rw [run_eq]; simp only [spec_PutMark_l2, ge_ln (Nat.le_refl _), cond_false, Option.bind_some], Nat.le_refl _⟩
    | succ d ih =>
      intro k hk
      have hlt : k < l.length := by omega
      obtain ⟨r, r1, r2⟩ := ih (k + 1) (by omega)
      rw [run_eq]
      simp only [spec_PutMark_l2, lt_ln hlt, inb_n hlt, cond_true, need_true, Option.bind_some, w64_n (show (k : Int) < 9223372036854775807 by omega)]
      cases decide ((gt l (k : Int)).Question < m.Question) with
      | true => exact ⟨r, r1, r2⟩
      | false => exact ⟨k, rfl, by omega⟩
  obtain ⟨k, r1, hk⟩ := key l.length 0 (by omega)
  have s1 : slB (k : Int) (ln l) (ln l) = true := by unfold slB; simp [ln_eq]; omega
  have s2 : slB 0 (k : Int) (ln l) = true := by unfold slB; simp [ln_eq]; omega
  have c1 := cutLen l 0 (k : Int)
  have c2 := cutLen l (k : Int) (ln l)
  have c0 : (cut l 0 (k : Int)).length ≤ k := by unfold cut; simp; omega
  have c3 : (cut l (k : Int) (ln l)).length ≤ l.length - k := by unfold cut; simp [ln_eq]
  have c4 := cutLen (cut l (k : Int) (ln l)) 1 (ln (cut l (k : Int) (ln l)))
  have rms : ∀ {n : Nat}, n ≤ 2000000 → rm n 16 = true := fun h => rm_ok h (by omega)
  unfold spec_PutMark
  rw [show run (spec_PutMark_l2 l m) 0 = some (k : Int) from r1]
  simp only [Option.bind_some, s1, s2, need_true, rms (show 0 + (cut l 0 (k : Int)).length ≤ 2000000 by omega), rms (show (cut l 0 (k : Int)).length + 1 ≤ 2000000 by omega), rms (show (cut l 0 (k : Int)).length + 1 + (cut (cut l (k : Int) (ln l)) 1 (ln (cut l (k : Int) (ln l)))).length ≤ 2000000 by omega),
    rms (show (cut l 0 (k : Int)).length + 1 + (cut l (k : Int) (ln l)).length ≤ 2000000 by omega), rms (show 0 + l.length ≤ 2000000 by omega)]
  obtain ⟨b1, a1, _⟩ := areMarks (((cut l 0 (k : Int)) ++ [m]) ++ (cut (cut l (k : Int) (ln l)) 1 (ln (cut l (k : Int) (ln l))))) (by simp; omega)
  obtain ⟨b2, a2, _⟩ := areMarks (((cut l 0 (k : Int)) ++ [m]) ++ (cut l (k : Int) (ln l))) (by simp; omega)
  have off : ∃ l' b, ((spec_AreMarks (((cut l 0 (k : Int)) ++ [m]) ++ (cut l (k : Int) (ln l)))).bind fun r => (bif (!r) then some (l, false) else some (((cut l 0 (k : Int)) ++ [m]) ++ (cut l (k : Int) (ln l)), true)) : Option (List Mark × Bool)) = some (l', b) ∧ l'.length ≤ l.length + 1 := by
    rw [a2]
    cases b2 with
    | false => exact ⟨l, false, rfl, by omega⟩
    | true => exact ⟨_, true, rfl, by simp; omega⟩
  by_cases h0 : 0 < (cut l (k : Int) (ln l)).length
  · rw [decide_eq_true (show 0 < ln (cut l (k : Int) (ln l)) by rw [ln_eq]; omega)]
    have hi : inb (cut l (k : Int) (ln l)) 0 = true := by rw [inb_iff]; omega
    have s3 : slB 1 (ln (cut l (k : Int) (ln l))) (ln (cut l (k : Int) (ln l))) = true := by
      have hlen : (1 : Int) ≤ ln (cut l (k : Int) (ln l)) := by rw [ln_eq]; omega
      unfold slB; rw [decide_eq_true hlen]; simp
    simp only [hi, cond_true, need_true, Option.bind_some]
    cases decide ((gt (cut l (k : Int) (ln l)) 0).Question = m.Question) with
    | true =>
      simp only [cond_true, s3, need_true, a1, Option.bind_some]
      cases b1 with
      | false => exact ⟨l, false, rfl, by omega⟩
      | true => exact ⟨_, true, rfl, by simp; omega⟩
    | false => exact off
  · rw [decide_eq_false (show ¬ 0 < ln (cut l (k : Int) (ln l)) by rw [ln_eq]; omega)]
    exact off
theorem l11Draw_ok (c : l1Cur) (h : okC c) : ∃ c' l, spec_l11Draw c = some (c', l) ∧ okC c' ∧ l.length ≤ 100 := by
  have key : ∀ (m : Nat) (c : l1Cur) (l : List Mark), okC c → l.length + m ≤ 100 → ∃ c' l', run spec_l11Draw_l3 (c, l, (m : Int)) = some (c', l') ∧ okC c' ∧ l'.length ≤ 100 := by
    intro m
    induction m with
    | zero =>
      intro c l hc hl
      exact ⟨c, l, by rw [run_eq]; simp only [spec_l11Draw_l3, show decide ((0 : Int) < ((0 : Nat) : Int)) = false from rfl, cond_false, Option.bind_some], hc, by omega⟩
    | succ m ih =>
      intro c l hc hl
      obtain ⟨c1, x1, e1, k1, _⟩ := l1Below_ok c 8 hc
      obtain ⟨c2, x2, e2, k2, _⟩ := l1Below_ok c1 9 k1
      obtain ⟨l3, b3, e3, n3⟩ := putMark_ok l (⟨w64 (1 + x1), x2⟩ : Mark) (by omega)
      obtain ⟨c', l', r1, r2⟩ := ih c2 l3 k2 (by omega)
      refine ⟨c', l', ?_, r2⟩
      rw [run_eq]
      simp only [spec_l11Draw_l3, decide_eq_true (show (0 : Int) < ((m + 1 : Nat) : Int) by omega), e1, e2, e3, cond_true, Option.bind_some, show w64 (((m + 1 : Nat) : Int) - 1) = (m : Int) from by rw [w64_in] <;> omega]
      exact r1
  obtain ⟨c1, x1, e1, k1, l1, u1⟩ := l1Below_ok c 6 h
  have u1 := u1 (by omega)
  obtain ⟨k, rfl⟩ : ∃ k : Nat, x1 = (k : Int) := ⟨x1.toNat, by omega⟩
  obtain ⟨c2, l, r2, k2, n2⟩ := key k c1 [] k1 (by simp; omega)
  exact ⟨c2, l, by unfold spec_l11Draw; simp only [e1, Option.bind_some]; rw [r2]; rfl, k2, n2⟩
theorem l31One_ok (c : l1Cur) (a : Int) (h : okC c) : ∃ c' x, spec_l31One c a = some (c', x) ∧ okC c' := by
  obtain ⟨c1, l, e1, k1, _⟩ := l11Draw_ok c h
  obtain ⟨c2, x2, e2, k2, _⟩ := l1Below_ok c1 9 k1
  obtain ⟨c3, x3, e3, k3, _⟩ := l1Below_ok c2 99 k2
  obtain ⟨c4, x4, e4, k4, _⟩ := l1Below_ok c1 99 k1
  unfold spec_l31One
  simp only [e1, e2, e3, e4, Option.bind_some]
  cases decide (ln l = 0) with
  | true => exact ⟨_, _, rfl, k3⟩
  | false => exact ⟨_, _, rfl, k4⟩
theorem l11Any_ok (c : l1Cur) (h : okC c) : ∃ c' l, spec_l11Any c = some (c', l) ∧ okC c' := by
  obtain ⟨c1, l, e1, k1, _⟩ := l11Draw_ok c h
  unfold spec_l11Any
  rw [e1]
  simp only [Option.bind_some]
  by_cases h0 : l.length = 0
  · rw [decide_eq_true (show ln l = 0 by rw [ln_eq]; omega)]; exact ⟨c1, l, rfl, k1⟩
  · rw [decide_eq_false (show ¬ ln l = 0 by rw [ln_eq]; omega)]
    obtain ⟨c2, x2, e2, k2, l2, u2⟩ := l1Below_ok c1 (ln l) k1
    have u2 := u2 (by rw [ln_eq]; omega)
    rw [ln_eq] at u2
    have hin : inb l x2 = true := by rw [inb_iff]; omega
    obtain ⟨c3, x3, e3, k3, _⟩ := l1Below_ok c2 9 k2
    obtain ⟨c4, x4, e4, k4, _⟩ := l1Int_ok c3 [0, 20, 21] k3 (by simp)
    obtain ⟨c5, x5, e5, k5, _⟩ := l1Int_ok c3 [(-1), 99, 100] k3 (by simp)
    simp only [e2, e3, e4, e5, hin, cond_false, Option.bind_some, need_true]
    cases decide (x3 = 0) with
    | true => exact ⟨_, _, rfl, k4⟩
    | false =>
    cases decide (x3 = 1) with
    | true => exact ⟨_, _, rfl, k5⟩
    | false => exact ⟨_, _, rfl, k3⟩
theorem l31Any_ok (c : l1Cur) (h : okC c) : ∃ c' l, spec_l31Any c = some (c', l) ∧ okC c' := by
  have key : ∀ (m : Nat) (c : l1Cur) (l : List Secret) (i : Int), okC c → i + (m : Int) = 6 → 0 ≤ i → l.length + m ≤ 100 → ∃ c' l', run spec_l31Any_l3 (c, l, i) = some (c', l') ∧ okC c' ∧ l'.length ≤ 100 := by
    intro m
    induction m with
    | zero =>
      intro c l i hc hi h0 hl
      obtain ⟨c1, x1, e1, k1, l1, u1⟩ := l1Below_ok c 6 hc
      have u1 := u1 (by omega)
      refine ⟨c1, l, ?_, k1, by omega⟩
      rw [run_eq]
      simp only [spec_l31Any_l3, e1, Option.bind_some, decide_eq_false (show ¬ i ≤ x1 by omega), cond_false]
    | succ m ih =>
      intro c l i hc hi h0 hl
      obtain ⟨c1, x1, e1, k1, l1, u1⟩ := l1Below_ok c 6 hc
      obtain ⟨c2, x2, e2, k2⟩ := l31One_ok c1 (w64 (2 * i)) k1
      rw [run_eq]
      simp only [spec_l31Any_l3, e1, e2, Option.bind_some, rm_ok (show l.length + 1 ≤ 2000000 by omega) (show 40 ≤ 1024 by omega), need_true, show w64 (i + 1) = i + 1 from w64_in (by omega) (by omega)]
      by_cases hd : i ≤ x1
      · rw [decide_eq_true hd]
        exact ih c2 _ (i + 1) k2 (by omega) (by omega) (by simp; omega)
      · rw [decide_eq_false hd]
        exact ⟨c1, l, rfl, k1, by omega⟩
  obtain ⟨c2, l, r2, k2, n2⟩ := key 5 c [] 1 h (by omega) (by omega) (by simp)
  unfold spec_l31Any
  rw [r2]
  simp only [Option.bind_some]
  by_cases h0 : 0 < ln l
  · rw [decide_eq_true h0]
    obtain ⟨c3, x3, e3, k3, l3, u3⟩ := l1Below_ok c2 (ln l) k2
    have u3 := u3 h0
    rw [ln_eq] at u3
    have hin : inb l x3 = true := by rw [inb_iff]; omega
    obtain ⟨c4, x4, e4, k4, _⟩ := l1Below_ok c3 10 k3
    obtain ⟨c5, x5, e5, k5, _⟩ := l1Int_ok c4 [0, 2, 999, 1000] k4 (by simp)
    obtain ⟨c6, x6, e6, k6⟩ := l11Any_ok c4 k4
    obtain ⟨c7, x7, e7, k7, _⟩ := l1Int_ok c4 [(-1), 1000000, 1000001] k4 (by simp)
    simp only [e3, e4, e5, e6, e7, hin, cond_true, Option.bind_some, need_true]
    cases decide (x4 = 0) with
    | true => exact ⟨_, _, rfl, k5⟩
    | false =>
    cases decide (x4 = 1) with
    | true => exact ⟨_, _, rfl, k6⟩
    | false =>
    cases decide (x4 = 2) with
    | true => exact ⟨_, _, rfl, k7⟩
    | false => exact ⟨_, _, rfl, k4⟩
  · rw [decide_eq_false h0]; exact ⟨c2, l, rfl, k2⟩
theorem newHouse_no {a : Int} {l : List Slot} {r : House × Bool} (hl : l.length ≤ 1048576) (h : spec_NewHouse a l = some r) (ha : i64 a) : i64 r.1.No := by
  have hm : sm_House ⟨a, [], [], l, [], [], [], [], 0⟩ := ⟨by simp, ⟨by simp, by simp⟩, hl, by simp, by simp, by simp, by simp⟩
  unfold spec_NewHouse at h
  rw [l33Copy _ hm] at h
  simp only [Option.bind_some] at h
  obtain ⟨b, _, h⟩ := Option.bind_eq_some_iff.1 h
  cases b with
  | true => injection h with h; subst h; exact ⟨by simp, by simp⟩
  | false => injection h with h; subst h; exact ha
/-- What a house shows of itself. -/
def hv (h : House) : Prop := i64 h.No ∧ i64 h.Now ∧ h.Finds.length ≤ 1048576 ∧ h.Claims.length ≤ 1048576 ∧ h.Chain.length ≤ 1048576 ∧ h.Book.length ≤ 1048576
theorem l33Any_ok (c : l1Cur) (h : okC c) : ∃ c' a, spec_l33Any c = some (c', a) ∧ okC c' ∧ hv a := by
  obtain ⟨c1, x1, e1, k1, _⟩ := l1Below_ok c 3 h
  obtain ⟨c2, l, e2, k2, n2⟩ := l33Slots_ok c1 k1
  obtain ⟨r3, e3, _, m1, m2, m3, m4, m5, m6, m7⟩ := newHouse (w64 (1 + x1)) l (by omega)
  have hno := newHouse_no (by omega) e3 (w64_rng _)
  obtain ⟨c4, x4, e4, k4, l4, u4⟩ := l1Below_ok c2 90 k2
  have u4 := u4 (by omega)
  have hnow : i64 x4 := ⟨by omega, by omega⟩
  obtain ⟨c5, x5, e5, k5, _⟩ := l1Below_ok c4 12 k4
  obtain ⟨c6, x6, e6, k6, q6⟩ := l1Int_ok c5 [0, 9, 10] k5 (by simp)
  have i6 : i64 x6 := i64_of_mem q6 (by decide)
  obtain ⟨c7, x7, e7, k7, n7⟩ := l6Any_ok c5 k5
  obtain ⟨c8, x8, e8, k8, n8, _⟩ := l14Any_ok c5 k5
  obtain ⟨c9, x9, e9, k9, n9, _⟩ := l13Any_ok c5 k5
  obtain ⟨c10, x10, e10, k10, n10, _⟩ := l16Any_ok c5 k5
  obtain ⟨c11, x11, e11, k11, n11⟩ := l29Any_ok c5 k5
  obtain ⟨c12, x12, e12, k12, q12⟩ := l1Int_ok c5 [(-1), 100000, 100001] k5 (by simp)
  have i12 : i64 x12 := i64_of_mem q12 (by decide)
  obtain ⟨c13, x13, e13, k13⟩ := l31Any_ok c5 k5
  unfold spec_l33Any
  simp only [e1, e2, e3, e4, e5, e6, e7, e8, e9, e10, e11, e12, e13, Option.bind_some]
  cases decide (x5 = 0) with
  | true => exact ⟨_, _, rfl, k6, i6, hnow, m1, m4, m6, m7⟩
  | false =>
  cases decide (x5 = 1) with
  | true => exact ⟨_, _, rfl, k7, hno, hnow, Nat.le_trans n7 (by omega), m4, m6, m7⟩
  | false =>
  cases decide (x5 = 2) with
  | true => exact ⟨_, _, rfl, k8, hno, hnow, m1, m4, m6, m7⟩
  | false =>
  cases decide (x5 = 3) with
  | true => exact ⟨_, _, rfl, k9, hno, hnow, m1, n9, m6, m7⟩
  | false =>
  cases decide (x5 = 4) with
  | true => exact ⟨_, _, rfl, k10, hno, hnow, m1, m4, Nat.le_trans n10 (by omega), m7⟩
  | false =>
  cases decide (x5 = 5) with
  | true => exact ⟨_, _, rfl, k11, hno, hnow, m1, m4, m6, n11⟩
  | false =>
  cases decide (x5 = 6) with
  | true => exact ⟨_, _, rfl, k12, hno, i12, m1, m4, m6, m7⟩
  | false =>
  cases decide (x5 = 7) with
  | true => exact ⟨_, _, rfl, k13, hno, hnow, m1, m4, m6, m7⟩
  | false => exact ⟨_, _, rfl, k5, hno, hnow, m1, m4, m6, m7⟩
end Go.Proofs.YtkbilciipmijjaaGreatDoor

/- Views: each claim shows one arrow, each slot one colon, a house five blanks, cents a point. No condition but the length. -/
namespace Go.Proofs.YtkbilciipmijjaaGreatDoor
open Go
set_option linter.unusedVariables false
set_option linter.unusedSimpArgs false
/-- A sign that stands in no number. -/
def noDig (k : UInt8) : Prop := (∀ d : Nat, d < 10 → UInt8.ofNat (48 + d) ≠ k) ∧ (45 : UInt8) ≠ k
theorem noDig_of {k : UInt8} (h : k = 32 ∨ k = 58 ∨ k = 62) : noDig k := by
  have all : ∀ d : Nat, d < 10 → d = 0 ∨ d = 1 ∨ d = 2 ∨ d = 3 ∨ d = 4 ∨ d = 5 ∨ d = 6 ∨ d = 7 ∨ d = 8 ∨ d = 9 := by omega
  rcases h with rfl | rfl | rfl
  all_goals
    refine ⟨fun d hd => ?_, by decide⟩
    rcases all d hd with rfl | rfl | rfl | rfl | rfl | rfl | rfl | rfl | rfl | rfl <;> decide
theorem digV {k : UInt8} (hk : noDig k) : ∀ u : Nat, (Lib.decDigits u).count k = 0 := by
  intro u
  induction u using Nat.strongRecOn with
  | _ u ih =>
    have one : ∀ d : Nat, d < 10 → ([UInt8.ofNat (48 + d)] : List UInt8).count k = 0 := by
      intro d hd
      rw [List.count_singleton, if_neg (by simpa using hk.1 d hd)]
    rw [Lib.decDigits]
    by_cases hu : u < 10
    · rw [dif_pos hu]; exact one u hu
    · rw [dif_neg hu, List.count_append, ih (u / 10) (by omega), one (u % 10) (by omega)]
theorem itoaV {k : UInt8} (hk : noDig k) (n : Int) : (Lib.itoa n).count k = 0 := by
  unfold Lib.itoa
  split
  · rw [List.count_cons, digV hk, if_neg (by simpa using hk.2)]
  · exact digV hk _
theorem joinTailV {k : UInt8} (hk : (32 : UInt8) ≠ k) : ∀ L : List (List UInt8), (∀ x ∈ L, x.count k = 1) → (Lib.joinTail [32] L).count k = L.length
  | [], _ => by simp [Lib.joinTail]
  | x :: L, h => by
    have e : Lib.joinTail [32] (x :: L) = [32] ++ x ++ Lib.joinTail [32] L := by simp [Lib.joinTail]
    rw [e, List.count_append, List.count_append, h x (by simp), joinTailV hk L fun y hy => h y (by simp [hy]), List.length_cons, List.count_singleton, if_neg (by simpa using hk)]
    omega
theorem joinV {k : UInt8} (hk : (32 : UInt8) ≠ k) (L : List (List UInt8)) (h : ∀ x ∈ L, x.count k = 1) : (Lib.join L [32]).count k = L.length := by
  cases L with
  | nil => rw [Lib.join_nil]; rfl
  | cons x L =>
    rw [Lib.join_cons, List.count_append, h x (by simp), joinTailV hk L fun y hy => h y (by simp [hy]), List.length_cons]
    omega
/-- Signs counted by a loop. -/
theorem count_run (s : List UInt8) (k : UInt8) (hs : s.length ≤ 300000000) {step : Int × Int → Option ((Int × Int) ⊕ Int)}
    (h1 : ∀ (n : Int) (i : Nat) (hi : i < s.length), step (n, (i : Int)) = (bif decide ((s[i].toNat : Int) = (k.toNat : Int)) then some (.inl (w64 (n + 1), ((i + 1 : Nat) : Int))) else some (.inl (n, ((i + 1 : Nat) : Int))))) (h2 : ∀ n, step (n, (s.length : Int)) = some (.inr n)) :
    run step (0, 0) = some (s.count k : Int) := by
  have := run_traj (step := step) (fun i => (((s.take i).count k : Int), (i : Int))) (r := (s.count k : Int)) s.length (fun i hi => by
    have hc := List.count_le_length (a := k) (l := s.take i)
    have hlen := List.length_take_le i s
    rw [h1 _ i hi, List.take_succ_eq_append_getElem hi, List.count_append]
    by_cases h : s[i] = k
    · rw [h, decide_eq_true rfl, w64_in (by omega) (by omega)]
      simp
    · have hn : ¬ ((s[i].toNat : Int) = (k.toNat : Int)) := fun h' => h (UInt8.toNat_inj.1 (by omega))
      rw [decide_eq_false hn, List.count_singleton, show (s[i] == k) = false from by simpa using h]
      simp) (by rw [h2, List.take_length])
  simpa using this
def joinedV (L : List (List UInt8)) : List UInt8 := if L = [] then [45] else Lib.join L [32]
theorem impl_joinV (L : List (List UInt8)) (hL : short L) : impl_joined L = some (joinedV L) ∧ (joinedV L).length ≤ 300000000 := by
  unfold impl_joined joinedV
  cases L with
  | nil => exact ⟨rfl, by simp⟩
  | cons x L =>
    have hb := join_len [32] rfl _ hL.2
    have hl := hL.1
    rw [if_neg (by simp), strs_join _ hL]
    refine ⟨?_, by omega⟩
    simp only [Option.bind_some, show decide (ln (x :: L) = 0) = false from decide_eq_false (by rw [ln_eq]; simp; omega), cond_false]
theorem joinedV_count {k : UInt8} (hk : (32 : UInt8) ≠ k) (h5 : (45 : UInt8) ≠ k) (L : List (List UInt8)) (h : ∀ x ∈ L, x.count k = 1) : (joinedV L).count k = L.length := by
  unfold joinedV
  split
  · rename_i e; subst e; rw [List.count_singleton, if_neg (by simpa using h5)]; rfl
  · exact joinV hk L h
/-- Slots. -/
def slotV (x : Slot) : List UInt8 := scat (scat (Lib.itoa x.Id) [58]) (bif !decide (x.Thing = 0) then Lib.itoa x.Thing else [46])
theorem formatSlotsV (l : List Slot) (hl : l.length ≤ 1048576) (hx : ∀ x ∈ l, sk x) : ∃ s, impl_FormatSlots l = some s ∧ s.length ≤ 300000000 ∧ s.count 58 = l.length := by
  have hlen : ∀ x ∈ l, (slotV x).length ≤ 200 := fun x h => by
    have a := itoa_len _ (hx x h).1; have b := itoa_len _ (hx x h).2
    unfold slotV
    cases (!decide (x.Thing = 0)) <;> simp only [cond_true, cond_false, scat_len, List.length_cons, List.length_nil] <;> omega
  have hsh : short (l.map slotV) := short_map hl hlen
  have hi := run_map_texts l slotV (step := impl_FormatSlots_l3 l (ln l)) (fun i out hi ho => by
      have hm := hx _ (List.getElem_mem hi)
      have a := itoa_len _ hm.1; have b := itoa_len _ hm.2
      have f1 : sfit (Lib.itoa l[i].Id) [58] = true := fitS (by omega) (one_len _)
      have f2 : sfit (scat (Lib.itoa l[i].Id) [58]) (Lib.itoa l[i].Thing) = true := fitS (by rw [scat_len]; simp only [List.length_cons, List.length_nil]; omega) (by omega)
      have f3 : sfit (scat (Lib.itoa l[i].Id) [58]) [46] = true := fitS (by rw [scat_len]; simp only [List.length_cons, List.length_nil]; omega) (one_len _)
      simp only [impl_FormatSlots_l3, lt_ln hi, inb_n hi, gt_n hi, w64_n (show (i : Int) < 9223372036854775807 by omega), rm_few2 (show out.length + 1 ≤ 2000000 by omega) (show 16 ≤ 1024 by omega), cond_true, need_true, impl_fmt _ hm.1, impl_fmt _ hm.2, Option.bind_some, f1, f2, f3, slotV]
      cases decide (l[i].Thing = 0) <;> rfl)
    (fun out => by simp only [impl_FormatSlots_l3, ge_ln (Nat.le_refl _), cond_false])
  obtain ⟨j1, j2⟩ := impl_joinV _ hsh
  refine ⟨_, by unfold impl_FormatSlots; rw [hi]; simp only [Option.bind_some, j1], j2, ?_⟩
  rw [joinedV_count (by decide) (by decide) _ (fun y hy => ?_), List.length_map]
  obtain ⟨x, _, rfl⟩ := List.mem_map.1 hy
  have hn : noDig 58 := noDig_of (.inr (.inl rfl))
  unfold slotV scat
  cases (!decide (x.Thing = 0)) <;> simp only [cond_true, cond_false, List.count_append, itoaV hn] <;> decide
/-- Claims. -/
def stateV (x : Claim) : List UInt8 := bif decide (0 ≤ x.State) && decide (x.State ≤ 3) then cut [111, 112, 102, 115] x.State (w64 (x.State + 1)) else [63]
def claimV (x : Claim) : List UInt8 := scat (scat (scat (scat (scat (Lib.itoa x.Id) [58]) (Lib.itoa x.Who)) [62]) (Lib.itoa x.Thing)) (stateV x)
theorem stateV_all (x : Claim) : (stateV x).length ≤ 4 ∧ (stateV x).count 62 = 0 := by
  unfold stateV
  by_cases h : 0 ≤ x.State ∧ x.State ≤ 3
  · have : x.State = 0 ∨ x.State = 1 ∨ x.State = 2 ∨ x.State = 3 := by omega
    rcases this with h | h | h | h <;> rw [h] <;> decide
  · have e : (decide (0 ≤ x.State) && decide (x.State ≤ 3)) = false := by
      rw [Bool.eq_false_iff]; intro hd; simp only [Bool.and_eq_true, decide_eq_true_eq] at hd; exact h hd
    rw [e]; simp only [cond_false]; decide
theorem formatClaimsV (l : List Claim) (hl : l.length ≤ 1048576) (hx : ∀ x ∈ l, ck x) : ∃ s, impl_FormatClaims l = some s ∧ s.length ≤ 300000000 ∧ s.count 62 = l.length := by
  have hlen : ∀ x ∈ l, (claimV x).length ≤ 200 := fun x h => by
    obtain ⟨m1, m2, m3⟩ := hx x h
    have a := itoa_len _ m1; have b := itoa_len _ m2; have c := itoa_len _ m3; have d := (stateV_all x).1
    unfold claimV
    simp only [scat_len, List.length_cons, List.length_nil]
    omega
  have hsh : short (l.map claimV) := short_map hl hlen
  have hi := run_map_texts l claimV (step := impl_FormatClaims_l3 l (ln l)) (fun i out hi ho => by
      obtain ⟨m1, m2, m3⟩ := hx _ (List.getElem_mem hi)
      have a := itoa_len _ m1; have b := itoa_len _ m2; have c := itoa_len _ m3; have d := (stateV_all l[i]).1
      have f1 : sfit (Lib.itoa l[i].Id) [58] = true := fitS (by omega) (one_len _)
      have f2 : sfit (scat (Lib.itoa l[i].Id) [58]) (Lib.itoa l[i].Who) = true := fitS (by simp only [scat_len, List.length_cons, List.length_nil]; omega) (by omega)
      have f3 : sfit (scat (scat (Lib.itoa l[i].Id) [58]) (Lib.itoa l[i].Who)) [62] = true := fitS (by simp only [scat_len, List.length_cons, List.length_nil]; omega) (one_len _)
      have f4 : sfit (scat (scat (scat (Lib.itoa l[i].Id) [58]) (Lib.itoa l[i].Who)) [62]) (Lib.itoa l[i].Thing) = true := fitS (by simp only [scat_len, List.length_cons, List.length_nil]; omega) (by omega)
      have f5 : ∀ t : List UInt8, t.length ≤ 4 → sfit (scat (scat (scat (scat (Lib.itoa l[i].Id) [58]) (Lib.itoa l[i].Who)) [62]) (Lib.itoa l[i].Thing)) t = true := fun t ht => fitS (by simp only [scat_len, List.length_cons, List.length_nil]; omega) (by omega)
      simp only [impl_FormatClaims_l3, lt_ln hi, inb_n hi, gt_n hi, w64_n (show (i : Int) < 9223372036854775807 by omega), rm_few2 (show out.length + 1 ≤ 2000000 by omega) (show 16 ≤ 1024 by omega), cond_true, need_true, impl_fmt _ m1, impl_fmt _ m2, impl_fmt _ m3, Option.bind_some, impl_InRange, f1, f2, f3, f4]
      cases hst : (decide (0 ≤ l[i].State) && decide (l[i].State ≤ 3)) with
      | false =>
        have e : stateV l[i] = [63] := by unfold stateV; rw [hst]; rfl
        simp only [cond_false, f5 [63] (by simp), need_true]
        unfold claimV; rw [e]
      | true =>
        have e : stateV l[i] = cut [111, 112, 102, 115] l[i].State (w64 (l[i].State + 1)) := by unfold stateV; rw [hst]; rfl
        have hs2 := hst
        simp only [Bool.and_eq_true, decide_eq_true_eq] at hs2
        have hsl : slB l[i].State (w64 (l[i].State + 1)) (ln [111, 112, 102, 115]) = true := by
          rw [w64_in (by omega) (by omega)]
          unfold slB; rw [ln_eq]; simp; omega
        rw [← e]
        simp only [cond_true, hsl, f5 _ d, need_true]
        rfl)
    (fun out => by simp only [impl_FormatClaims_l3, ge_ln (Nat.le_refl _), cond_false])
  obtain ⟨j1, j2⟩ := impl_joinV _ hsh
  refine ⟨_, by unfold impl_FormatClaims; rw [hi]; simp only [Option.bind_some, j1], j2, ?_⟩
  rw [joinedV_count (by decide) (by decide) _ (fun y hy => ?_), List.length_map]
  obtain ⟨x, _, rfl⟩ := List.mem_map.1 hy
  have hn : noDig 62 := noDig_of (.inr (.inr rfl))
  unfold claimV scat
  simp only [List.count_append, itoaV hn, (stateV_all x).2]
  decide
/-- A house. -/
theorem formatHouseV (h : House) (hh : hv h) : ∃ s, impl_FormatHouse h = some s ∧ s.length ≤ 300000000 ∧ s.count 32 = 5 := by
  obtain ⟨h1, h2, h3, h4, h5, h6⟩ := hh
  have hlen : ∀ {A : Type} (l : List A), l.length ≤ 1048576 → i64 (ln l) := fun l hl => by unfold i64; rw [ln_eq]; omega
  have hx : ∀ x ∈ [h.No, h.Now, ln h.Finds, ln h.Claims, ln h.Chain, ln h.Book], i64 x := by
    intro x hx
    simp only [List.mem_cons, List.not_mem_nil, or_false] at hx
    rcases hx with rfl | rfl | rfl | rfl | rfl | rfl
    · exact h1
    · exact h2
    · exact hlen _ h3
    · exact hlen _ h4
    · exact hlen _ h5
    · exact hlen _ h6
  have hq : ∃ q : List Int, q = [h.No, h.Now, ln h.Finds, ln h.Claims, ln h.Chain, ln h.Book] := ⟨_, rfl⟩
  obtain ⟨q, eq⟩ := hq
  rw [← eq] at hx
  have hl : q.length = 6 := by rw [eq]; rfl
  have hsh : short (q.map Lib.itoa) := short_map (by omega) fun x h => Nat.le_trans (itoa_len x (hx x h)) (by omega)
  have hi := run_map_texts q Lib.itoa (step := impl_FormatNumbers_l3 q (ln q)) (fun i out hi ho => by
      simp only [impl_FormatNumbers_l3, lt_ln hi, inb_n hi, gt_n hi, w64_n (show (i : Int) < 9223372036854775807 by omega), rm_few2 (show out.length + 1 ≤ 2000000 by omega) (show 16 ≤ 1024 by omega), cond_true, need_true, impl_fmt _ (hx _ (List.getElem_mem hi)), Option.bind_some])
    (fun out => by simp only [impl_FormatNumbers_l3, ge_ln (Nat.le_refl _), cond_false])
  obtain ⟨j1, j2⟩ := impl_joinV _ hsh
  refine ⟨joinedV (q.map Lib.itoa), ?_, j2, ?_⟩
  · unfold impl_FormatHouse impl_FormatNumbers
    rw [← eq, hi]; simp only [Option.bind_some, j1]
  · have hn : noDig 32 := noDig_of (.inl rfl)
    rw [eq]
    unfold joinedV
    rw [if_neg (by simp)]
    simp only [List.map_cons, List.map_nil, Lib.join_cons, Lib.joinTail, List.flatten_cons, List.flatten_nil, List.count_append, List.append_nil, itoaV hn]
    decide
/-- Cents. -/
theorem digit_one {n : Int} (h0 : 0 ≤ n) (h1 : n ≤ 9) : (Lib.itoa n).length = 1 := by
  have : n = 0 ∨ n = 1 ∨ n = 2 ∨ n = 3 ∨ n = 4 ∨ n = 5 ∨ n = 6 ∨ n = 7 ∨ n = 8 ∨ n = 9 := by omega
  unfold Lib.itoa
  rw [if_neg (by omega), Lib.decDigits, dif_pos (by omega)]; rfl
theorem cents_shape (s a b d : List UInt8) (hb : b.length = 1) (hd : d.length = 1) : ∃ r, r = scat (scat (scat (scat s a) [46]) b) d ∧ r ≠ [] ∧ r.length = s.length + a.length + 3 ∧ r[s.length + a.length]? = some 46 := by
  refine ⟨_, rfl, ?_, ?_, ?_⟩
  · intro h
    have := congrArg List.length h
    simp only [scat_len, List.length_cons, List.length_nil] at this
    omega
  · simp only [scat_len, List.length_cons, List.length_nil]; omega
  · unfold scat
    rw [List.getElem?_append_left (by simp), List.getElem?_append_left (by simp), List.getElem?_append_right (by simp)]
    simp
theorem tmodT {x : Int} (h : 0 ≤ x) : 0 ≤ x.tmod 10 ∧ x.tmod 10 ≤ 9 := ⟨Int.tmod_nonneg _ h, by have := Int.tmod_lt_of_pos x (b := 10) (by omega); omega⟩
theorem formatCentsV (c : Int) : ∃ s, impl_FormatCents c = some s ∧ (s = [] ↔ (c < -1000000000 ∨ 1000000000 < c)) ∧ (s ≠ [] → ∃ k : Nat, s.length = k + 3 ∧ s.length ≤ 1000 ∧ s[k]? = some 46) := by
  have big : ∀ {x : List UInt8}, x.length ≤ 100 → ∀ {y : List UInt8}, y.length ≤ 100 → sfit x y = true := fun hx _ hy => sfit_ok (by omega) (by omega)
  have tail : ∀ (s : List UInt8) (a b d : Int), s.length ≤ 1 → i64 a → 0 ≤ b → b ≤ 9 → 0 ≤ d → d ≤ 9 → ∃ r,
      ((impl_FormatInt a).bind fun r2 => nd (sfit s r2) <| nd (sfit (scat s r2) [46]) <| (impl_FormatInt b).bind fun r3 => nd (sfit (scat (scat s r2) [46]) r3) <| (impl_FormatInt d).bind fun r4 => nd (sfit (scat (scat (scat s r2) [46]) r3) r4) <| some (scat (scat (scat (scat s r2) [46]) r3) r4)) = some r ∧ r ≠ [] ∧ ∃ k : Nat, r.length = k + 3 ∧ r.length ≤ 1000 ∧ r[k]? = some 46 := by
    intro s a b d hs ha hb0 hb1 hd0 hd1
    have hb : i64 b := ⟨by omega, by omega⟩
    have hd : i64 d := ⟨by omega, by omega⟩
    have la := itoa_len a ha; have lb := itoa_len b hb; have ld := itoa_len d hd
    have l2 : (scat s (Lib.itoa a)).length ≤ 22 := by rw [scat_len]; omega
    have l3 : (scat (scat s (Lib.itoa a)) [46]).length ≤ 23 := by rw [scat_len]; simp only [List.length_cons, List.length_nil]; omega
    have l4 : (scat (scat (scat s (Lib.itoa a)) [46]) (Lib.itoa b)).length ≤ 44 := by rw [scat_len]; omega
    obtain ⟨r, e, r1, r2, r3⟩ := cents_shape s (Lib.itoa a) (Lib.itoa b) (Lib.itoa d) (digit_one hb0 hb1) (digit_one hd0 hd1)
    refine ⟨r, ?_, r1, s.length + (Lib.itoa a).length, r2, by omega, r3⟩
    simp only [impl_fmt a ha, impl_fmt b hb, impl_fmt d hd, Option.bind_some, big (show s.length ≤ 100 by omega) (show (Lib.itoa a).length ≤ 100 by omega),
      big (show (scat s (Lib.itoa a)).length ≤ 100 by omega) (show ([46] : List UInt8).length ≤ 100 by simp), big (show (scat (scat s (Lib.itoa a)) [46]).length ≤ 100 by omega) (show (Lib.itoa b).length ≤ 100 by omega),
      big (show (scat (scat (scat s (Lib.itoa a)) [46]) (Lib.itoa b)).length ≤ 100 by omega) (show (Lib.itoa d).length ≤ 100 by omega), need_true]
    rw [e]
  unfold impl_FormatCents impl_InRange
  simp only [Option.bind_some]
  by_cases hin : -1000000000 ≤ c ∧ c ≤ 1000000000
  · have e : (decide (-1000000000 ≤ c) && decide (c ≤ 1000000000)) = true := by rw [decide_eq_true hin.1, decide_eq_true hin.2]; rfl
    rw [e]
    simp only [Bool.not_true, cond_false]
    have fin : ∀ {o : Option (List UInt8)}, (∃ r, o = some r ∧ r ≠ [] ∧ ∃ k : Nat, r.length = k + 3 ∧ r.length ≤ 1000 ∧ r[k]? = some 46) → ∃ s, o = some s ∧ (s = [] ↔ (c < -1000000000 ∨ 1000000000 < c)) ∧ (s ≠ [] → ∃ k : Nat, s.length = k + 3 ∧ s.length ≤ 1000 ∧ s[k]? = some 46) := by
      rintro o ⟨r, r1, r2, r3⟩
      exact ⟨r, r1, ⟨fun h => absurd h r2, fun h => by omega⟩, fun _ => r3⟩
    by_cases hc : c < 0
    · rw [decide_eq_true hc]
      have ew : w64 (-c) = -c := w64_in (by omega) (by omega)
      have ed : w64 ((-c).tdiv 10) = (-c).tdiv 10 := by
        have h1 : 0 ≤ (-c).tdiv 10 := Int.tdiv_nonneg (by omega) (by omega)
        have h2 : (-c).tdiv 10 ≤ -c := Int.tdiv_le_self _ (by omega)
        exact w64_in (by omega) (by omega)
      rw [ew, ed]
      have t1 := tmodT (x := (-c).tdiv 10) (Int.tdiv_nonneg (by omega) (by omega))
      have t2 := tmodT (x := -c) (by omega)
      exact fin (tail [45] _ _ _ (by simp) (w64_rng _) t1.1 t1.2 t2.1 t2.2)
    · rw [decide_eq_false hc]
      have ed : w64 (c.tdiv 10) = c.tdiv 10 := by
        have h1 : 0 ≤ c.tdiv 10 := Int.tdiv_nonneg (by omega) (by omega)
        have h2 : c.tdiv 10 ≤ c := Int.tdiv_le_self _ (by omega)
        exact w64_in (by omega) (by omega)
      rw [ed]
      have t1 := tmodT (x := c.tdiv 10) (Int.tdiv_nonneg (by omega) (by omega))
      have t2 := tmodT (x := c) (by omega)
      exact fin (tail [] _ _ _ (by simp) (w64_rng _) t1.1 t1.2 t2.1 t2.2)
  · have e : (decide (-1000000000 ≤ c) && decide (c ≤ 1000000000)) = false := by
      rw [Bool.eq_false_iff]; intro hd; simp only [Bool.and_eq_true, decide_eq_true_eq] at hd; exact hin hd
    rw [e]
    exact ⟨[], rfl, ⟨fun _ => by omega, fun _ => rfl⟩, fun h => absurd rfl h⟩
end Go.Proofs.YtkbilciipmijjaaGreatDoor
