import Derived.Test.YtncpklppoancgaaGreatPz3
import Derived.Test.YtncpklppoancgaaGreatFam
import Derived.Test.YtncpklppoancgaaGreatPz2
import Derived.Test.YtncpklppoancgaaGreatPz1
namespace Go.Proofs.YtncpklppoancgaaGreat
open Go
set_option linter.unusedVariables false
set_option linter.unusedSimpArgs false
theorem Qg1 (c : l1Cur) (h : okC c) : ∃ c' l, Zm c = some (c', l) ∧ okC c' ∧ l.length ≤ 100 := by
 have key : ∀ (m : Nat) (c : l1Cur) (l : List Slot) (i : Int), okC c → i + (m : Int) = 8 → 0 ≤ i → l.length + m ≤ 100 → ∃ c' l', run XS (c, l, i) = some (c', l') ∧ okC c' ∧ l'.length ≤ 100 := by
  intro m
  induction m with
  | zero =>
   intro c l i hc hi h0 hl
   obtain ⟨c1, x1, e1, k1, l1, u1⟩ := Qd c 5 hc
   have u1 := u1 (by omega)
   refine ⟨c1, l, ?_, k1, by omega⟩
   rw [Qi]
   simp only [XS, e1, Option.bind_some, show w64 (3 + x1) = 3 + x1 from VK (by omega) (by omega), decide_eq_false (show ¬ i ≤ 3 + x1 by omega), cond_false]
  | succ m ih =>
   intro c l i hc hi h0 hl
   obtain ⟨c1, x1, e1, k1, l1, u1⟩ := Qd c 5 hc
   have u1 := u1 (by omega)
   obtain ⟨c2, x2, e2, k2, _⟩ := Qd c1 4 k1
   rw [Qi]
   simp only [XS, e1, e2, Option.bind_some, show w64 (3 + x1) = 3 + x1 from VK (by omega) (by omega), Xk (show l.length + 1 ≤ 2000000 by omega) (show 24 ≤ 1024 by omega), Qa, show w64 (i + 1) = i + 1 from VK (by omega) (by omega)]
   by_cases hd : i ≤ 3 + x1
   ·rw [decide_eq_true hd]
    exact ih c2 _ (i + 1) k2 (by omega) (by omega) (by simp; omega)
   ·rw [decide_eq_false hd]
    exact ⟨c1, l, rfl, k1, by omega⟩
 obtain ⟨c', l', r1, r2, r3⟩ := key 7 c [] 1 h (by omega) (by omega) (by simp)
 exact ⟨c', l', by unfold Zm; rw [r1]; rfl, r2, r3⟩
theorem Qgz (c : l1Cur) (i : Int) (h : okC c) : ∃ c' x, ZB c i = some (c', x) ∧ okC c' ∧ x.Id = i := by
 obtain ⟨c1, x1, e1, k1, _⟩ := Qd c 8 h
 obtain ⟨c2, x2, e2, k2, _⟩ := Qd c1 8 k1
 obtain ⟨c3, x3, e3, k3, _⟩ := Qd c2 20 k2
 obtain ⟨c4, x4, e4, k4, _⟩ := Qd c3 500 k3
 exact ⟨c4, _, by unfold ZB; simp only [e1, e2, e3, e4, Option.bind_some]; rfl, k4, rfl⟩
theorem Qq5 (c : l1Cur) (i : Int) (h : okC c) : ∃ c' x, Qa6 c i = some (c', x) ∧ okC c' := by
 obtain ⟨c1, x1, e1, k1, _⟩ := Qgz c i h
 obtain ⟨c2, x2, e2, k2, _⟩ := Qd c1 6 k1
 obtain ⟨c3, x3, e3, k3, _⟩ := Qd c2 80 k2
 obtain ⟨c4, x4, e4, k4, _⟩ := Qd c3 5 k3
 exact ⟨c4, _, by unfold Qa6; simp only [e1, e2, e3, e4, Option.bind_some]; rfl, k4⟩
theorem QrQ {S R : Type} {step : S → Option (S ⊕ R)} (I : S → Prop) (J : R → Prop) (h1 : ∀ s s', I s → step s = some (.inl s') → I s') (h2 : ∀ s r, I s → step s = some (.inr r) → J r) {s : S} {r : R} (hs : I s) (h : run step s = some r) : J r := by
 obtain ⟨n, hn⟩ := Z9.1 h
 clear h
 induction n generalizing s with
 | zero => simp [itr] at hn
 | succ n ih =>
  simp only [itr] at hn
  cases ho : step s with
  | none => rw [ho] at hn; cases hn
  | some o =>
   rw [ho] at hn
   cases o with
   | inl s' => exact ih (h1 _ _ hs ho) hn
   | inr q => injection hn with hn; subst hn; exact h2 _ _ hs ho
theorem X3 {B : Type} {b : Bool} {q : Option B} {r : B} (h : (nd b <| q) = some r) : b = true ∧ q = some r := by
 cases b with
 | false => cases h
 | true => exact ⟨rfl, h⟩
theorem QlL {A : Type} {l : List A} {a b : Int} {x : A} (h : x ∈ cut l a b) : x ∈ l := by
 unfold cut at h
 exact List.mem_of_mem_take (List.mem_of_mem_drop h)
theorem QdX {A : Type} [Inhabited A] {l : List A} {i : Int} (h : inb l i = true) : gt l i ∈ l := by
 rw [XC] at h
 obtain ⟨k, rfl⟩ : ∃ k : Nat, i = (k : Int) := ⟨i.toNat, by omega⟩
 have hk : k < l.length := by omega
 rw [Qu hk]; exact List.getElem_mem hk
theorem Qf5 {A : Type} {l : List A} {n : Nat} {x y : A} (h : y ∈ l.set n x) : y ∈ l ∨ y = x := List.mem_or_eq_of_mem_set h
end Go.Proofs.YtncpklppoancgaaGreat
namespace Go.Proofs.YtncpklppoancgaaGreat
open Go
set_option linter.unusedVariables false
set_option linter.unusedSimpArgs false
def ck (x : Claim) : Prop := i64 x.Id ∧ i64 x.Who ∧ i64 x.Thing
theorem QkU {l : List Claim} {a : Claim} {r : List Claim × Bool} (h : XK l a = some r) : ∀ y ∈ r.1, y ∈ l ∨ y = a := by
 unfold XK at h
 obtain ⟨b, _, h⟩ := Option.bind_eq_some_iff.1 h
 obtain ⟨_, h⟩ := X3 h
 obtain ⟨_, h⟩ := X3 h
 obtain ⟨_, h⟩ := X3 h
 obtain ⟨_, h⟩ := X3 h
 obtain ⟨_, h⟩ := X3 h
 obtain ⟨b2, _, h⟩ := Option.bind_eq_some_iff.1 h
 cases b2 with
 | true =>
  simp only [cond_true] at h
  obtain ⟨_, h⟩ := X3 h
  injection h with h; subst h
  exact fun y hy => .inl hy
 | false =>
  simp only [cond_false] at h
  injection h with h; subst h
  intro y hy
  rcases List.mem_append.1 hy with hy | hy
  ·rcases List.mem_append.1 hy with hy | hy
   ·exact .inl (QlL hy)
   ·exact .inr (List.mem_singleton.1 hy)
  ·exact .inl (QlL hy)
theorem QkN {l : List Claim} {i s : Int} {r : List Claim × Bool} (h : Jz l i s = some r) (hl : ∀ y ∈ l, ck y) : ∀ y ∈ r.1, ck y := by
 unfold Jz at h
 obtain ⟨_, h⟩ := X3 h
 obtain ⟨k, _, h⟩ := Option.bind_eq_some_iff.1 h
 obtain ⟨b, _, h⟩ := Option.bind_eq_some_iff.1 h
 cases b with
 | true =>
  simp only [cond_true] at h
  injection h with h; subst h
  exact hl
 | false =>
  simp only [cond_false] at h
  obtain ⟨hin, h⟩ := X3 h
  obtain ⟨b2, _, h⟩ := Option.bind_eq_some_iff.1 h
  cases b2 with
  | true =>
   simp only [cond_true] at h
   obtain ⟨_, h⟩ := X3 h
   injection h with h; subst h
   exact hl
  | false =>
   simp only [cond_false] at h
   injection h with h; subst h
   intro y hy
   rcases Qf5 hy with hy | hy
   ·exact hl y hy
   ·rw [hy]; have hg := hl _ (QdX hin); exact ⟨hg.1, hg.2.1, hg.2.2⟩
theorem Qoa (c : l1Cur) (h : okC c) : ∃ c' l, Qav c = some (c', l) ∧ okC c' ∧ l.length ≤ 1048576 ∧ ∀ y ∈ l, ck y := by
 have key : ∀ (m : Nat) (c : l1Cur) (l : List Claim) (i : Int), okC c → i + (m : Int) = 8 → 0 ≤ i → l.length ≤ 1048576 → (∀ y ∈ l, ck y) → ∃ c' l', run Jg (c, l, i) = some (c', l') ∧ okC c' ∧ l'.length ≤ 1048576 ∧ ∀ y ∈ l', ck y := by
  intro m
  induction m with
  | zero =>
   intro c l i hc hi h0 hl hy
   obtain ⟨c1, x1, e1, k1, l1, u1⟩ := Qd c 8 hc
   have u1 := u1 (by omega)
   refine ⟨c1, l, ?_, k1, hl, hy⟩
   rw [Qi]
   simp only [Jg, e1, Option.bind_some, decide_eq_false (show ¬ i ≤ x1 by omega), cond_false]
  | succ m ih =>
   intro c l i hc hi h0 hl hy
   obtain ⟨c1, x1, e1, k1, l1, u1⟩ := Qd c 8 hc
   obtain ⟨c2, x2, e2, k2, _⟩ := Qd c1 5 k1
   obtain ⟨c3, x3, e3, k3, _⟩ := Qd c2 3 k2
   obtain ⟨c4, x4, e4, k4, _⟩ := Qd c3 60 k3
   obtain ⟨r5, e5, _, n5, _⟩ := Qt4 l (⟨w64 (2 * i), w64 (1 + x2), w64 (2 * (w64 (1 + x3))), x4, 0⟩ : Claim) hl
   have m5 := QkU e5
   obtain ⟨c6, x6, e6, k6, _⟩ := Qd c4 4 k4
   obtain ⟨r7, e7, _, n7⟩ := Qsz r5.1 (w64 (2 * i)) x6 n5
   have m7 := QkN e7 (fun y hy' => by
    rcases m5 y hy' with h | h
    ·exact hy y h
    ·rw [h]; exact ⟨QdZ _, QdZ _, QdZ _⟩)
   rw [Qi]
   simp only [Jg, e1, e2, e3, e4, e5, e6, e7, Option.bind_some, show w64 (i + 1) = i + 1 from VK (by omega) (by omega)]
   by_cases hd : i ≤ x1
   ·rw [decide_eq_true hd]
    exact ih c6 r7.1 (i + 1) k6 (by omega) (by omega) (by rw [n7]; exact n5) m7
   ·rw [decide_eq_false hd]
    exact ⟨c1, l, rfl, k1, hl, hy⟩
 obtain ⟨c', l', r1, r2, r3, r4⟩ := key 7 c [] 1 h (by omega) (by omega) (by simp) (by simp)
 exact ⟨c', l', by unfold Qav; rw [r1]; rfl, r2, r3, r4⟩
theorem QjN {x : Int} (h0 : -9223372036854775808 ≤ x) (h1 : x ≤ 9223372036854775807) : i64 x := ⟨h0, h1⟩
theorem QeW {x : Int} {l : List Int} (h : x ∈ l) (hl : ∀ y ∈ l, -9223372036854775808 ≤ y ∧ y ≤ 9223372036854775807) : i64 x := hl x h
theorem QqT (c : l1Cur) (h : okC c) : ∃ c' l, Qbb c = some (c', l) ∧ okC c' ∧ l.length ≤ 1048576 ∧ ∀ y ∈ l, ck y := by
 obtain ⟨c1, l, e1, k1, n1, hy⟩ := Qoa c h
 unfold Qbb
 rw [e1]
 simp only [Option.bind_some]
 by_cases h0 : l.length = 0
 ·rw [decide_eq_true (show ln l = 0 by rw [Qr]; omega)]; exact ⟨c1, l, rfl, k1, n1, hy⟩
 ·rw [decide_eq_false (show ¬ ln l = 0 by rw [Qr]; omega)]
  obtain ⟨c2, x2, e2, k2, l2, u2⟩ := Qd c1 (ln l) k1
  obtain ⟨c3, x3, e3, k3, _⟩ := Qd c2 10 k2
  have u2 := u2 (by rw [Qr]; omega)
  rw [Qr] at u2
  have hin : inb l x2 = true := by rw [XC]; omega
  have hg := hy _ (QdX hin)
  obtain ⟨c4, x4, e4, k4, m4⟩ := Vd c3 [0, 2, 999, 1000] k3 (by simp)
  obtain ⟨c5, x5, e5, k5, m5⟩ := Qcf c3 k3
  obtain ⟨c6, x6, e6, k6, m6⟩ := Vd c3 [(-1), 100000, 100001] k3 (by simp)
  obtain ⟨c7, x7, e7, k7, m7⟩ := Vd c3 [(-1), 3, 4] k3 (by simp)
  have i4 : i64 x4 := QeW m4 (by decide)
  have ls : ∀ (n : Nat) (x : Claim), (l.set n x).length ≤ 1048576 := fun n x => by rw [List.length_set]; exact n1
  have st : ∀ (n : Nat) (x : Claim), ck x → ∀ y ∈ l.set n x, ck y := fun n x hx y hy' => by
   rcases Qf5 hy' with h | h
   ·exact hy y h
   ·rw [h]; exact hx
  simp only [e2, e3, e4, e5, e6, e7, hin, cond_false, Option.bind_some, Qa]
  cases decide (x3 = 0) with
  | true => exact ⟨_, _, rfl, k4, ls _ _, st _ _ ⟨i4, hg.2.1, hg.2.2⟩⟩
  | false =>
  cases decide (x3 = 1) with
  | true => exact ⟨_, _, rfl, k5, ls _ _, st _ _ ⟨hg.1, m5, hg.2.2⟩⟩
  | false =>
  cases decide (x3 = 2) with
  | true => exact ⟨_, _, rfl, k6, ls _ _, st _ _ ⟨hg.1, hg.2.1, hg.2.2⟩⟩
  | false =>
  cases decide (x3 = 3) with
  | true => exact ⟨_, _, rfl, k7, ls _ _, st _ _ ⟨hg.1, hg.2.1, hg.2.2⟩⟩
  | false => exact ⟨_, _, rfl, k3, n1, hy⟩
def sk (x : Slot) : Prop := i64 x.Id ∧ i64 x.Thing
theorem QmK {l : List Slot} {a : Thing} {r : List Slot × Bool} (h : Jt l a = some r) (hl : ∀ y ∈ l, sk y) (ha : i64 a.Id) : ∀ y ∈ r.1, sk y := by
 unfold Jt at h
 obtain ⟨_, h⟩ := X3 h
 obtain ⟨k, _, h⟩ := Option.bind_eq_some_iff.1 h
 obtain ⟨b, _, h⟩ := Option.bind_eq_some_iff.1 h
 cases b with
 | true =>
  simp only [cond_true] at h
  injection h with h; subst h
  exact hl
 | false =>
  simp only [cond_false] at h
  obtain ⟨b2, hr, h⟩ := Option.bind_eq_some_iff.1 h
  injection h with h; subst h
  refine QrQ (fun s => ∀ y ∈ s.1, sk y) (fun o => ∀ y ∈ o, sk y) (fun s s' hI hs => ?_) (fun s r hI hs => ?_) (s := (l, 0)) hl hr
  ·obtain ⟨o, i⟩ := s
   simp only [Va] at hs
   cases hd : decide (i < ln o) with
   | false => rw [hd] at hs; cases hs
   | true =>
    rw [hd] at hs
    obtain ⟨hin, hs⟩ := X3 hs
    cases he : decide ((gt o i).Id = k) with
    | true =>
     rw [he] at hs
     injection hs with hs; injection hs with hs; subst hs
     intro y hy
     rcases Qf5 hy with h | h
     ·exact hI y h
     ·rw [h]; exact ⟨(hI _ (QdX hin)).1, ha⟩
    | false =>
     rw [he] at hs
     injection hs with hs; injection hs with hs; subst hs
     exact hI
  ·obtain ⟨o, i⟩ := s
   simp only [Va] at hs
   cases hd : decide (i < ln o) with
   | false =>
    rw [hd] at hs
    injection hs with hs; injection hs with hs; subst hs
    exact hI
   | true =>
    rw [hd] at hs
    obtain ⟨hin, hs⟩ := X3 hs
    cases he : decide ((gt o i).Id = k) <;> rw [he] at hs <;> cases hs
theorem QoX (c : l1Cur) (h : okC c) : ∃ c' l, Qat c = some (c', l) ∧ okC c' ∧ 0 < l.length ∧ l.length ≤ 100 ∧ ∀ y ∈ l, sk y := by
 have key : ∀ (m : Nat) (c : l1Cur) (l : List Slot) (i : Int), okC c → i + (m : Int) = 9 → 0 ≤ i → l.length + m ≤ 100 → (1 < i → 0 < l.length) → (∀ y ∈ l, sk y) → ∃ c' l', run Jj (c, l, i) = some (c', l') ∧ okC c' ∧ 0 < l'.length ∧ l'.length ≤ 100 ∧ ∀ y ∈ l', sk y := by
  intro m
  induction m with
  | zero =>
   intro c l i hc hi h0 hl hp hy
   obtain ⟨c1, x1, e1, k1, l1, u1⟩ := Qd c 7 hc
   have u1 := u1 (by omega)
   refine ⟨c1, l, ?_, k1, hp (by omega), by omega, hy⟩
   rw [Qi]
   simp only [Jj, e1, Option.bind_some, show w64 (2 + x1) = 2 + x1 from VK (by omega) (by omega), decide_eq_false (show ¬ i ≤ 2 + x1 by omega), cond_false]
  | succ m ih =>
   intro c l i hc hi h0 hl hp hy
   obtain ⟨c1, x1, e1, k1, l1, u1⟩ := Qd c 7 hc
   have u1 := u1 (by omega)
   obtain ⟨c2, x2, e2, k2, _⟩ := Qd c1 6 k1
   rw [Qi]
   simp only [Jj, e1, e2, Option.bind_some, show w64 (2 + x1) = 2 + x1 from VK (by omega) (by omega), Xk (show l.length + 1 ≤ 2000000 by omega) (show 24 ≤ 1024 by omega), Qa, show w64 (i + 1) = i + 1 from VK (by omega) (by omega)]
   by_cases hd : i ≤ 2 + x1
   ·rw [decide_eq_true hd]
    exact ih c2 _ (i + 1) k2 (by omega) (by omega) (by simp; omega) (fun _ => by simp) (fun y hy' => by
     rcases List.mem_append.1 hy' with h | h
     ·exact hy y h
     ·rw [List.mem_singleton.1 h]; exact ⟨QjN (by simp only; omega) (by simp only; omega), QjN (by simp) (by simp)⟩)
   ·rw [decide_eq_false hd]
    exact ⟨c1, l, rfl, k1, hp (by omega), by omega, hy⟩
 have key2 : ∀ (m : Nat) (c : l1Cur) (l : List Slot), m ≤ 1000 → okC c → 0 < l.length → l.length ≤ 100 → (∀ y ∈ l, sk y) → ∃ c' l', run Jc (c, l, (m : Int)) = some (c', l') ∧ okC c' ∧ 0 < l'.length ∧ l'.length ≤ 100 ∧ ∀ y ∈ l', sk y := by
  intro m
  induction m with
  | zero =>
   intro c l hm hc hp hl hy
   exact ⟨c, l, by rw [Qi]; simp only [Jc, show decide ((0 : Int) < ((0 : Nat) : Int)) = false from rfl, cond_false, Option.bind_some], hc, hp, hl, hy⟩
  | succ m ih =>
   intro c l hm hc hp hl hy
   obtain ⟨c1, x1, e1, k1, _⟩ := Qd c 20 hc
   obtain ⟨c2, x2, e2, k2, q2⟩ := Qgz c1 (w64 (1 + x1)) k1
   obtain ⟨r3, e3, _, n3⟩ := QwK l x2 (by omega)
   have m3 := QmK e3 hy (by rw [q2]; exact QdZ _)
   obtain ⟨c', l', r1, r2⟩ := ih c2 r3.1 (by omega) k2 (by omega) (by omega) m3
   refine ⟨c', l', ?_, r2⟩
   rw [Qi]
   simp only [Jc, decide_eq_true (show (0 : Int) < ((m + 1 : Nat) : Int) by omega), e1, e2, e3, cond_true, Option.bind_some, show w64 (((m + 1 : Nat) : Int) - 1) = (m : Int) from by rw [VK] <;> omega]
   exact r1
 obtain ⟨c1, l1, r1, k1, p1, n1, hy1⟩ := key 8 c [] 1 h (by omega) (by omega) (by simp) (fun h => by omega) (by simp)
 obtain ⟨c2, x2, e2, k2, l2, u2⟩ := Qd c1 5 k1
 have u2 := u2 (by omega)
 obtain ⟨k, rfl⟩ : ∃ k : Nat, x2 = (k : Int) := ⟨x2.toNat, by omega⟩
 obtain ⟨c3, l3, r3, q3⟩ := key2 k c2 l1 (by omega) k2 p1 n1 hy1
 exact ⟨c3, l3, by unfold Qat; rw [r1]; simp only [Option.bind_some, e2]; rw [r3]; rfl, q3⟩
theorem QjW (c : l1Cur) (h : okC c) : ∃ c' l, Qap c = some (c', l) ∧ okC c' ∧ l.length ≤ 100 ∧ ∀ y ∈ l, sk y := by
 obtain ⟨c1, l, e1, k1, p1, n1, hy⟩ := QoX c h
 obtain ⟨c2, x2, e2, k2, l2, u2⟩ := Qd c1 (ln l) k1
 obtain ⟨c3, x3, e3, k3, _⟩ := Qd c2 10 k2
 have u2 := u2 (by rw [Qr]; omega)
 rw [Qr] at u2
 have hin : inb l x2 = true := by rw [XC]; omega
 have hin0 : inb l 0 = true := by rw [XC]; omega
 have hg := hy _ (QdX hin)
 have hg0 := hy _ (QdX hin0)
 obtain ⟨c4, x4, e4, k4, m4⟩ := Vd c3 [0, 1, 99, 100] k3 (by simp)
 obtain ⟨c5, x5, e5, k5, m5⟩ := Qcf c3 k3
 obtain ⟨c6, x6, e6, k6, m6⟩ := Vd c3 [(-1), 999, 1000] k3 (by simp)
 have i4 : i64 x4 := QeW m4 (by decide)
 have i6 : i64 x6 := QeW m6 (by decide)
 have ls : ∀ (n : Nat) (x : Slot), (l.set n x).length ≤ 100 := fun n x => by rw [List.length_set]; exact n1
 have st : ∀ (n : Nat) (x : Slot), sk x → ∀ y ∈ l.set n x, sk y := fun n x hx y hy' => by
  rcases Qf5 hy' with h | h
  ·exact hy y h
  ·rw [h]; exact hx
 unfold Qap
 simp only [e1, e2, e3, e4, e5, e6, hin, hin0, Option.bind_some, Qa]
 cases decide (x3 = 0) with
 | true => exact ⟨_, _, rfl, k4, ls _ _, st _ _ ⟨i4, hg.2⟩⟩
 | false =>
 cases decide (x3 = 1) with
 | true => exact ⟨_, _, rfl, k5, ls _ _, st _ _ ⟨hg.1, hg.2⟩⟩
 | false =>
 cases decide (x3 = 2) with
 | true => exact ⟨_, _, rfl, k6, ls _ _, st _ _ ⟨hg.1, i6⟩⟩
 | false =>
 cases decide (x3 = 3) with
 | true => exact ⟨_, _, rfl, k3, ls _ _, st _ _ ⟨hg.1, hg0.2⟩⟩
 | false => exact ⟨_, _, rfl, k3, n1, hy⟩
end Go.Proofs.YtncpklppoancgaaGreat
namespace Go.Proofs.YtncpklppoancgaaGreat
open Go
set_option linter.unusedVariables false
set_option linter.unusedSimpArgs false
theorem Qrc (c : l1Cur) (h : okC c) : ∃ c' l, Qa7 c = some (c', l) ∧ okC c' ∧ l.length ≤ 100 := by
 have key : ∀ (m : Nat) (c : l1Cur) (l : List Find) (i : Int), okC c → i + (m : Int) = 8 → 0 ≤ i → l.length + m ≤ 100 → ∃ c' l', run JV (c, l, i) = some (c', l') ∧ okC c' ∧ l'.length ≤ 100 := by
  intro m
  induction m with
  | zero =>
   intro c l i hc hi h0 hl
   obtain ⟨c1, x1, e1, k1, l1, u1⟩ := Qd c 8 hc
   have u1 := u1 (by omega)
   refine ⟨c1, l, ?_, k1, by omega⟩
   rw [Qi]
   simp only [JV, e1, Option.bind_some, decide_eq_false (show ¬ i ≤ x1 by omega), cond_false]
  | succ m ih =>
   intro c l i hc hi h0 hl
   obtain ⟨c1, x1, e1, k1, l1, u1⟩ := Qd c 8 hc
   obtain ⟨c2, x2, e2, k2⟩ := Qq5 c1 (w64 (2 * i)) k1
   rw [Qi]
   simp only [JV, e1, e2, Option.bind_some, Xk (show l.length + 1 ≤ 2000000 by omega) (show 64 ≤ 1024 by omega), Qa, show w64 (i + 1) = i + 1 from VK (by omega) (by omega)]
   by_cases hd : i ≤ x1
   ·rw [decide_eq_true hd]
    exact ih c2 _ (i + 1) k2 (by omega) (by omega) (by simp; omega)
   ·rw [decide_eq_false hd]
    exact ⟨c1, l, rfl, k1, by omega⟩
 obtain ⟨c', l', r1, r2, r3⟩ := key 7 c [] 1 h (by omega) (by omega) (by simp)
 exact ⟨c', l', by unfold Qa7; rw [r1]; rfl, r2, r3⟩
theorem QtJ (c : l1Cur) (h : okC c) : ∃ c' x, QbB c = some (c', x) ∧ okC c' := by
 obtain ⟨c1, x1, e1, k1, _⟩ := Qd c 40 h
 obtain ⟨c2, x2, e2, k2, _⟩ := Qgz c1 (w64 (1 + x1)) k1
 obtain ⟨c3, x3, e3, k3, _⟩ := Qd c2 14 k2
 obtain ⟨c4, x4, e4, k4, _⟩ := Vd c3 [0, 999, 1000] k3 (by simp)
 obtain ⟨c5, x5, e5, k5, _⟩ := Vd c3 [0, 8, 9] k3 (by simp)
 obtain ⟨c6, x6, e6, k6, _⟩ := Vd c3 [(-1), 7, 8] k3 (by simp)
 obtain ⟨c7, x7, e7, k7, _⟩ := Qcf c3 k3
 obtain ⟨c8, x8, e8, k8, _⟩ := Vd c3 [(-1), 10000000, 10000001] k3 (by simp)
 unfold QbB
 simp only [e1, e2, e3, e4, e5, e6, e7, e8, Option.bind_some]
 cases decide (x3 = 0) with
 | true => exact ⟨_, _, rfl, k4⟩
 | false =>
 cases decide (x3 = 1) with
 | true => exact ⟨_, _, rfl, k5⟩
 | false =>
 cases decide (x3 = 2) with
 | true => exact ⟨_, _, rfl, k6⟩
 | false =>
 cases decide (x3 = 3) with
 | true => exact ⟨_, _, rfl, k7⟩
 | false =>
 cases decide (x3 = 4) with
 | true => exact ⟨_, _, rfl, k8⟩
 | false => exact ⟨_, _, rfl, k3⟩
theorem Qt7 (c : l1Cur) (h : okC c) : ∃ c' l, QbG c = some (c', l) ∧ okC c' ∧ l.length ≤ 100 := by
 obtain ⟨c1, l, e1, k1, n1⟩ := Qrc c h
 unfold QbG
 rw [e1]
 simp only [Option.bind_some]
 by_cases h0 : l.length = 0
 ·rw [decide_eq_true (show ln l = 0 by rw [Qr]; omega)]; exact ⟨c1, l, rfl, k1, n1⟩
 ·rw [decide_eq_false (show ¬ ln l = 0 by rw [Qr]; omega)]
  obtain ⟨c2, x2, e2, k2, l2, u2⟩ := Qd c1 (ln l) k1
  obtain ⟨c3, x3, e3, k3, _⟩ := Qd c2 12 k2
  have u2 := u2 (by rw [Qr]; omega)
  rw [Qr] at u2
  have hin : inb l x2 = true := by rw [XC]; omega
  obtain ⟨c4, x4, e4, k4⟩ := QtJ c3 k3
  obtain ⟨c5, x5, e5, k5, _⟩ := Vd c3 [0, 30, 31] k3 (by simp)
  obtain ⟨c6, x6, e6, k6, _⟩ := Qcf c3 k3
  obtain ⟨c7, x7, e7, k7, _⟩ := Vd c3 [(-1), 999, 1000] k3 (by simp)
  have ls : ∀ (n : Nat) (x : Find), (l.set n x).length ≤ 100 := fun n x => by rw [List.length_set]; exact n1
  simp only [e2, e3, e4, e5, e6, e7, hin, cond_false, Option.bind_some, Qa]
  cases decide (x3 = 0) with
  | true => exact ⟨_, _, rfl, k4, ls _ _⟩
  | false =>
  cases decide (x3 = 1) with
  | true => exact ⟨_, _, rfl, k5, ls _ _⟩
  | false =>
  cases decide (x3 = 2) with
  | true => exact ⟨_, _, rfl, k6, ls _ _⟩
  | false =>
  cases decide (x3 = 3) with
  | true => exact ⟨_, _, rfl, k7, ls _ _⟩
  | false => exact ⟨_, _, rfl, k3, n1⟩
end Go.Proofs.YtncpklppoancgaaGreat
namespace Go.Proofs.YtncpklppoancgaaGreat
open Go
set_option linter.unusedVariables false
set_option linter.unusedSimpArgs false
theorem QoK {A : Type} (l : List A) (a b : Int) : (cut l a b).length ≤ l.length := by
 unfold cut; simp; omega
theorem QoD (l : List Mark) (m : Mark) (hl : l.length ≤ 1000) : ∃ l' b, QaL l m = some (l', b) ∧ l'.length ≤ l.length + 1 := by
 have key : ∀ (d k : Nat), k + d = l.length → ∃ r : Nat, run (Xv l m) (k : Int) = some (r : Int) ∧ r ≤ l.length := by
  intro d
  induction d with
  | zero =>
   intro k hk
   have : k = l.length := by omega
   subst this
   exact ⟨l.length, by rw [Qi]; simp only [Xv, QH (Nat.le_refl _), cond_false, Option.bind_some], Nat.le_refl _⟩
  | succ d ih =>
   intro k hk
   have hlt : k < l.length := by omega
   obtain ⟨r, r1, r2⟩ := ih (k + 1) (by omega)
   rw [Qi]
   simp only [Xv, QF hlt, Qh hlt, cond_true, Qa, Option.bind_some, QU (show (k : Int) < 9223372036854775807 by omega)]
   cases decide ((gt l (k : Int)).Question < m.Question) with
   | true => exact ⟨r, r1, r2⟩
   | false => exact ⟨k, rfl, by omega⟩
 obtain ⟨k, r1, hk⟩ := key l.length 0 (by omega)
 have s1 : slB (k : Int) (ln l) (ln l) = true := by unfold slB; simp [Qr]; omega
 have s2 : slB 0 (k : Int) (ln l) = true := by unfold slB; simp [Qr]; omega
 have c1 := QoK l 0 (k : Int)
 have c2 := QoK l (k : Int) (ln l)
 have c0 : (cut l 0 (k : Int)).length ≤ k := by unfold cut; simp; omega
 have c3 : (cut l (k : Int) (ln l)).length ≤ l.length - k := by unfold cut; simp [Qr]
 have c4 := QoK (cut l (k : Int) (ln l)) 1 (ln (cut l (k : Int) (ln l)))
 have rms : ∀ {n : Nat}, n ≤ 2000000 → rm n 16 = true := fun h => Xk h (by omega)
 unfold QaL
 rw [show run (Xv l m) 0 = some (k : Int) from r1]
 simp only [Option.bind_some, s1, s2, Qa, rms (show 0 + (cut l 0 (k : Int)).length ≤ 2000000 by omega), rms (show (cut l 0 (k : Int)).length + 1 ≤ 2000000 by omega), rms (show (cut l 0 (k : Int)).length + 1 + (cut (cut l (k : Int) (ln l)) 1 (ln (cut l (k : Int) (ln l)))).length ≤ 2000000 by omega),
  rms (show (cut l 0 (k : Int)).length + 1 + (cut l (k : Int) (ln l)).length ≤ 2000000 by omega), rms (show 0 + l.length ≤ 2000000 by omega)]
 obtain ⟨b1, a1, _⟩ := Qdj (((cut l 0 (k : Int)) ++ [m]) ++ (cut (cut l (k : Int) (ln l)) 1 (ln (cut l (k : Int) (ln l))))) (by simp; omega)
 obtain ⟨b2, a2, _⟩ := Qdj (((cut l 0 (k : Int)) ++ [m]) ++ (cut l (k : Int) (ln l))) (by simp; omega)
 have off : ∃ l' b, ((XL (((cut l 0 (k : Int)) ++ [m]) ++ (cut l (k : Int) (ln l)))).bind fun r => (bif (!r) then some (l, false) else some (((cut l 0 (k : Int)) ++ [m]) ++ (cut l (k : Int) (ln l)), true)) : Option (List Mark × Bool)) = some (l', b) ∧ l'.length ≤ l.length + 1 := by
  rw [a2]
  cases b2 with
  | false => exact ⟨l, false, rfl, by omega⟩
  | true => exact ⟨_, true, rfl, by simp; omega⟩
 by_cases h0 : 0 < (cut l (k : Int) (ln l)).length
 ·rw [decide_eq_true (show 0 < ln (cut l (k : Int) (ln l)) by rw [Qr]; omega)]
  have hi : inb (cut l (k : Int) (ln l)) 0 = true := by rw [XC]; omega
  have s3 : slB 1 (ln (cut l (k : Int) (ln l))) (ln (cut l (k : Int) (ln l))) = true := by
   have hlen : (1 : Int) ≤ ln (cut l (k : Int) (ln l)) := by rw [Qr]; omega
   unfold slB; rw [decide_eq_true hlen]; simp
  simp only [hi, cond_true, Qa, Option.bind_some]
  cases decide ((gt (cut l (k : Int) (ln l)) 0).Question = m.Question) with
  | true =>
   simp only [cond_true, s3, Qa, a1, Option.bind_some]
   cases b1 with
   | false => exact ⟨l, false, rfl, by omega⟩
   | true => exact ⟨_, true, rfl, by simp; omega⟩
  | false => exact off
 ·rw [decide_eq_false (show ¬ 0 < ln (cut l (k : Int) (ln l)) by rw [Qr]; omega)]
  exact off
theorem QiS (c : l1Cur) (h : okC c) : ∃ c' l, ZQ c = some (c', l) ∧ okC c' ∧ l.length ≤ 100 := by
 have key : ∀ (m : Nat) (c : l1Cur) (l : List Mark), okC c → l.length + m ≤ 100 → ∃ c' l', run Jd (c, l, (m : Int)) = some (c', l') ∧ okC c' ∧ l'.length ≤ 100 := by
  intro m
  induction m with
  | zero =>
   intro c l hc hl
   exact ⟨c, l, by rw [Qi]; simp only [Jd, show decide ((0 : Int) < ((0 : Nat) : Int)) = false from rfl, cond_false, Option.bind_some], hc, by omega⟩
  | succ m ih =>
   intro c l hc hl
   obtain ⟨c1, x1, e1, k1, _⟩ := Qd c 8 hc
   obtain ⟨c2, x2, e2, k2, _⟩ := Qd c1 9 k1
   obtain ⟨l3, b3, e3, n3⟩ := QoD l (⟨w64 (1 + x1), x2⟩ : Mark) (by omega)
   obtain ⟨c', l', r1, r2⟩ := ih c2 l3 k2 (by omega)
   refine ⟨c', l', ?_, r2⟩
   rw [Qi]
   simp only [Jd, decide_eq_true (show (0 : Int) < ((m + 1 : Nat) : Int) by omega), e1, e2, e3, cond_true, Option.bind_some, show w64 (((m + 1 : Nat) : Int) - 1) = (m : Int) from by rw [VK] <;> omega]
   exact r1
 obtain ⟨c1, x1, e1, k1, l1, u1⟩ := Qd c 6 h
 have u1 := u1 (by omega)
 obtain ⟨k, rfl⟩ : ∃ k : Nat, x1 = (k : Int) := ⟨x1.toNat, by omega⟩
 obtain ⟨c2, l, r2, k2, n2⟩ := key k c1 [] k1 (by simp; omega)
 exact ⟨c2, l, by unfold ZQ; simp only [e1, Option.bind_some]; rw [r2]; rfl, k2, n2⟩
theorem Qqw (c : l1Cur) (a : Int) (h : okC c) : ∃ c' x, Qbc c a = some (c', x) ∧ okC c' ∧ x.Marks.length ≤ 100 := by
 obtain ⟨c1, l, e1, k1, n1⟩ := QiS c h
 obtain ⟨c2, x2, e2, k2, _⟩ := Qd c1 9 k1
 obtain ⟨c3, x3, e3, k3, _⟩ := Qd c2 99 k2
 obtain ⟨c4, x4, e4, k4, _⟩ := Qd c1 99 k1
 unfold Qbc
 simp only [e1, e2, e3, e4, Option.bind_some]
 cases decide (ln l = 0) with
 | true => exact ⟨_, _, rfl, k3, by simp⟩
 | false => exact ⟨_, _, rfl, k4, n1⟩
theorem QqP (c : l1Cur) (h : okC c) : ∃ c' l, Qbg c = some (c', l) ∧ okC c' ∧ l.length ≤ 100 := by
 obtain ⟨c1, l, e1, k1, n1⟩ := QiS c h
 unfold Qbg
 rw [e1]
 simp only [Option.bind_some]
 by_cases h0 : l.length = 0
 ·rw [decide_eq_true (show ln l = 0 by rw [Qr]; omega)]; exact ⟨c1, l, rfl, k1, n1⟩
 ·rw [decide_eq_false (show ¬ ln l = 0 by rw [Qr]; omega)]
  obtain ⟨c2, x2, e2, k2, l2, u2⟩ := Qd c1 (ln l) k1
  have u2 := u2 (by rw [Qr]; omega)
  rw [Qr] at u2
  have hin : inb l x2 = true := by rw [XC]; omega
  obtain ⟨c3, x3, e3, k3, _⟩ := Qd c2 9 k2
  obtain ⟨c4, x4, e4, k4, _⟩ := Vd c3 [0, 20, 21] k3 (by simp)
  obtain ⟨c5, x5, e5, k5, _⟩ := Vd c3 [(-1), 99, 100] k3 (by simp)
  simp only [e2, e3, e4, e5, hin, cond_false, Option.bind_some, Qa]
  cases decide (x3 = 0) with
  | true => exact ⟨_, _, rfl, k4, by rw [List.length_set]; exact n1⟩
  | false =>
  cases decide (x3 = 1) with
  | true => exact ⟨_, _, rfl, k5, by rw [List.length_set]; exact n1⟩
  | false => exact ⟨_, _, rfl, k3, n1⟩
end Go.Proofs.YtncpklppoancgaaGreat
namespace Go.Proofs.YtncpklppoancgaaGreat
open Go
set_option linter.unusedVariables false
set_option linter.unusedSimpArgs false
theorem QkW {l : List Entry} {x : Entry} {r : List Entry × Bool} (h : JA l x = some r) : r.1.length ≤ l.length + 1 := by
 unfold JA at h
 obtain ⟨_, h⟩ := X3 h
 obtain ⟨_, h⟩ := X3 h
 obtain ⟨b, _, h⟩ := Option.bind_eq_some_iff.1 h
 cases b with
 | false => obtain ⟨_, h⟩ := X3 (show (nd (rm (0 + l.length) 32) <| some (l, false)) = some r from h); injection h with h; subst h; exact Nat.le_succ _
 | true => injection h with h; subst h; simp
theorem Qrx (c : l1Cur) (h : okC c) : ∃ c' l, Qbe c = some (c', l) ∧ okC c' ∧ l.length ≤ 1000 := by
 have key : ∀ (m : Nat) (c : l1Cur) (l : List Entry) (a : Int), m ≤ 1000 → okC c → l.length + m ≤ 1000 → ∃ c' l', run JK (c, l, a, (m : Int)) = some (c', l') ∧ okC c' ∧ l'.length ≤ 1000 := by
  intro m
  induction m with
  | zero =>
   intro c l a hm hc hl
   exact ⟨c, l, by rw [Qi]; simp only [JK, show decide ((0 : Int) < ((0 : Nat) : Int)) = false from rfl, cond_false, Option.bind_some], hc, by omega⟩
  | succ m ih =>
   intro c l a hm hc hl
   obtain ⟨c1, x1, e1, k1, _⟩ := Qd c 4 hc
   obtain ⟨c2, x2, e2, k2, _⟩ := Qd c1 4 k1
   obtain ⟨c3, x3, e3, k3, _⟩ := Qd c2 500 k2
   obtain ⟨r4, e4, _, _⟩ := QtM l (⟨x1, x2, w64 (1 + x3), a⟩ : Entry) (by omega)
   have n4 := QkW e4
   obtain ⟨c5, x5, e5, k5, _⟩ := Qd c3 9 k3
   obtain ⟨c', l', r1, r2⟩ := ih c5 r4.1 (w64 (a + x5)) (by omega) k5 (by omega)
   refine ⟨c', l', ?_, r2⟩
   rw [Qi]
   simp only [JK, decide_eq_true (show (0 : Int) < ((m + 1 : Nat) : Int) by omega), e1, e2, e3, e4, e5, cond_true, Option.bind_some, show w64 (((m + 1 : Nat) : Int) - 1) = (m : Int) from by rw [VK] <;> omega]
   exact r1
 obtain ⟨c1, x1, e1, k1, l1, u1⟩ := Qd c 8 h
 have u1 := u1 (by omega)
 obtain ⟨k, rfl⟩ : ∃ k : Nat, x1 = (k : Int) := ⟨x1.toNat, by omega⟩
 obtain ⟨c2, l, r2, k2, n2⟩ := key k c1 [] 0 (by omega) k1 (by simp; omega)
 unfold Qbe
 simp only [e1, Option.bind_some]
 rw [r2]
 simp only [Option.bind_some]
 by_cases h0 : 0 < ln l
 ·rw [decide_eq_true h0]
  obtain ⟨c3, x3, e3, k3, l3, u3⟩ := Qd c2 (ln l) k2
  have u3 := u3 h0
  rw [Qr] at u3
  have hin : inb l x3 = true := by rw [XC]; omega
  obtain ⟨c4, x4, e4, k4, _⟩ := Qd c3 12 k3
  obtain ⟨c5, x5, e5, k5, _⟩ := Vd c4 [(-1), 999, 1000] k4 (by simp)
  obtain ⟨c6, x6, e6, k6, _⟩ := Vd c4 [0, 10000000, 10000001] k4 (by simp)
  obtain ⟨c7, x7, e7, k7, _⟩ := Qcf c4 k4
  have ls : ∀ (n : Nat) (x : Entry), (l.set n x).length ≤ 1000 := fun n x => by rw [List.length_set]; exact n2
  simp only [e3, e4, e5, e6, e7, hin, cond_true, Option.bind_some, Qa]
  cases decide (x4 = 0) with
  | true => exact ⟨_, _, rfl, k5, ls _ _⟩
  | false =>
  cases decide (x4 = 1) with
  | true => exact ⟨_, _, rfl, k6, ls _ _⟩
  | false =>
  cases decide (x4 = 2) with
  | true => exact ⟨_, _, rfl, k7, ls _ _⟩
  | false => exact ⟨_, _, rfl, k4, n2⟩
 ·rw [decide_eq_false h0]; exact ⟨c2, l, rfl, k2, n2⟩
theorem Qqu (c : l1Cur) (h : okC c) : ∃ c' l, Qbj c = some (c', l) ∧ okC c' ∧ smL ZZ l := by
 have key : ∀ (m : Nat) (c : l1Cur) (l : List Secret) (i : Int), okC c → i + (m : Int) = 6 → 0 ≤ i → l.length + m ≤ 100 → (∀ y ∈ l, ZZ y) → ∃ c' l', run JS (c, l, i) = some (c', l') ∧ okC c' ∧ l'.length ≤ 100 ∧ ∀ y ∈ l', ZZ y := by
  intro m
  induction m with
  | zero =>
   intro c l i hc hi h0 hl hs
   obtain ⟨c1, x1, e1, k1, l1, u1⟩ := Qd c 6 hc
   have u1 := u1 (by omega)
   refine ⟨c1, l, ?_, k1, by omega, hs⟩
   rw [Qi]
   simp only [JS, e1, Option.bind_some, decide_eq_false (show ¬ i ≤ x1 by omega), cond_false]
  | succ m ih =>
   intro c l i hc hi h0 hl hs
   obtain ⟨c1, x1, e1, k1, l1, u1⟩ := Qd c 6 hc
   obtain ⟨c2, x2, e2, k2, n2⟩ := Qqw c1 (w64 (2 * i)) k1
   rw [Qi]
   simp only [JS, e1, e2, Option.bind_some, Xk (show l.length + 1 ≤ 2000000 by omega) (show 40 ≤ 1024 by omega), Qa, show w64 (i + 1) = i + 1 from VK (by omega) (by omega)]
   by_cases hd : i ≤ x1
   ·rw [decide_eq_true hd]
    exact ih c2 _ (i + 1) k2 (by omega) (by omega) (by simp; omega) (fun y hy => by
     rcases List.mem_append.1 hy with hy | hy
     ·exact hs y hy
     ·rw [List.mem_singleton.1 hy]; exact Nat.le_trans n2 (by omega))
   ·rw [decide_eq_false hd]
    exact ⟨c1, l, rfl, k1, by omega, hs⟩
 obtain ⟨c2, l, r2, k2, n2, s2⟩ := key 5 c [] 1 h (by omega) (by omega) (by simp) (by simp)
 have ls : ∀ (n : Nat) (x : Secret), ZZ x → smL ZZ (l.set n x) := fun n x hx => ⟨by rw [List.length_set]; omega, fun y hy => by
  rcases List.mem_or_eq_of_mem_set hy with hy | hy
  ·exact s2 y hy
  ·rw [hy]; exact hx⟩
 unfold Qbj
 rw [r2]
 simp only [Option.bind_some]
 by_cases h0 : 0 < ln l
 ·rw [decide_eq_true h0]
  obtain ⟨c3, x3, e3, k3, l3, u3⟩ := Qd c2 (ln l) k2
  have u3 := u3 h0
  rw [Qr] at u3
  have hin : inb l x3 = true := by rw [XC]; omega
  obtain ⟨c4, x4, e4, k4, _⟩ := Qd c3 10 k3
  obtain ⟨c5, x5, e5, k5, _⟩ := Vd c4 [0, 2, 999, 1000] k4 (by simp)
  obtain ⟨c6, x6, e6, k6, n6⟩ := QqP c4 k4
  have hg : ZZ (gt l x3) := s2 _ (QdX hin)
  obtain ⟨c7, x7, e7, k7, _⟩ := Vd c4 [(-1), 1000000, 1000001] k4 (by simp)
  simp only [e3, e4, e5, e6, e7, hin, cond_true, Option.bind_some, Qa]
  cases decide (x4 = 0) with
  | true => exact ⟨_, _, rfl, k5, ls _ _ hg⟩
  | false =>
  cases decide (x4 = 1) with
  | true => exact ⟨_, _, rfl, k6, ls _ _ (Nat.le_trans n6 (by omega))⟩
  | false =>
  cases decide (x4 = 2) with
  | true => exact ⟨_, _, rfl, k7, ls _ _ hg⟩
  | false => exact ⟨_, _, rfl, k4, by omega, s2⟩
 ·rw [decide_eq_false h0]; exact ⟨c2, l, rfl, k2, by omega, s2⟩
theorem Qob {a : Int} {l : List Slot} {r : House × Bool} (hl : l.length ≤ 1048576) (h : JD a l = some r) : r.1.Finds = [] ∧ r.1.Secrets = [] ∧ r.1.Trials = [] ∧ r.1.Book = [] ∧ r.1.Slots.length ≤ l.length := by
 have hm : V0 ⟨a, [], [], l, [], [], [], [], 0⟩ := ⟨by simp, ⟨by simp, by simp⟩, hl, by simp, by simp, by simp, by simp⟩
 unfold JD at h
 rw [Qk9 _ hm] at h
 simp only [Option.bind_some] at h
 obtain ⟨b, _, h⟩ := Option.bind_eq_some_iff.1 h
 cases b with
 | true => injection h with h; subst h; exact ⟨rfl, rfl, rfl, rfl, by simp⟩
 | false => injection h with h; subst h; exact ⟨rfl, rfl, rfl, rfl, Nat.le_refl _⟩
theorem Qd3 (c : l1Cur) (h : okC c) : ∃ c' a, J2 c = some (c', a) ∧ okC c' ∧ V0 a ∧ (a.Finds = [] ∨ a.Secrets = []) ∧ a.Trials.length ≤ 1000 ∧ a.Book.length ≤ 1000 ∧ a.Finds.length ≤ 1000 ∧ a.Slots.length ≤ 1000 := by
 obtain ⟨c1, x1, e1, k1, _⟩ := Qd c 3 h
 obtain ⟨c2, l, e2, k2, n2⟩ := Qg1 c1 k1
 obtain ⟨r3, e3, _, m1, m2, m3, m4, m5, m6, m7⟩ := QsF (w64 (1 + x1)) l (by omega)
 obtain ⟨f3, s3, t3, b3, q3⟩ := Qob (by omega) e3
 have p3 : r3.1.Finds.length ≤ 1000 := by rw [f3]; simp
 have q3 : r3.1.Slots.length ≤ 1000 := by omega
 have t3 : r3.1.Trials.length ≤ 1000 := by rw [t3]; simp
 have b3 : r3.1.Book.length ≤ 1000 := by rw [b3]; simp
 obtain ⟨c4, x4, e4, k4, l4, u4⟩ := Qd c2 90 k2
 have u4 := u4 (by omega)
 obtain ⟨c5, x5, e5, k5, _⟩ := Qd c4 12 k4
 obtain ⟨c6, x6, e6, k6, q6⟩ := Vd c5 [0, 9, 10] k5 (by simp)
 obtain ⟨c7, x7, e7, k7, n7⟩ := Qt7 c5 k5
 obtain ⟨c8, x8, e8, k8, n8, _⟩ := QjW c5 k5
 obtain ⟨c9, x9, e9, k9, n9, _⟩ := QqT c5 k5
 obtain ⟨c10, x10, e10, k10, n10, _⟩ := Qru c5 k5
 obtain ⟨c11, x11, e11, k11, n11⟩ := Qrx c5 k5
 obtain ⟨c12, x12, e12, k12, q12⟩ := Vd c5 [(-1), 100000, 100001] k5 (by simp)
 obtain ⟨c13, x13, e13, k13, n13⟩ := Qqu c5 k5
 unfold J2
 simp only [e1, e2, e3, e4, e5, e6, e7, e8, e9, e10, e11, e12, e13, Option.bind_some]
 cases decide (x5 = 0) with
 | true => exact ⟨_, _, rfl, k6, ⟨m1, m2, m3, m4, m5, m6, m7⟩, .inl f3, t3, b3, p3, q3⟩
 | false =>
 cases decide (x5 = 1) with
 | true => exact ⟨_, _, rfl, k7, ⟨Nat.le_trans n7 (by omega), m2, m3, m4, m5, m6, m7⟩, .inr s3, t3, b3, Nat.le_trans n7 (by omega), q3⟩
 | false =>
 cases decide (x5 = 2) with
 | true => exact ⟨_, _, rfl, k8, ⟨m1, m2, Nat.le_trans n8 (by omega), m4, m5, m6, m7⟩, .inl f3, t3, b3, p3, Nat.le_trans n8 (by omega)⟩
 | false =>
 cases decide (x5 = 3) with
 | true => exact ⟨_, _, rfl, k9, ⟨m1, m2, m3, n9, m5, m6, m7⟩, .inl f3, t3, b3, p3, q3⟩
 | false =>
 cases decide (x5 = 4) with
 | true => exact ⟨_, _, rfl, k10, ⟨m1, m2, m3, m4, m5, Nat.le_trans n10 (by omega), m7⟩, .inl f3, t3, b3, p3, q3⟩
 | false =>
 cases decide (x5 = 5) with
 | true => exact ⟨_, _, rfl, k11, ⟨m1, m2, m3, m4, m5, m6, Nat.le_trans n11 (by omega)⟩, .inl f3, t3, n11, p3, q3⟩
 | false =>
 cases decide (x5 = 6) with
 | true => exact ⟨_, _, rfl, k12, ⟨m1, m2, m3, m4, m5, m6, m7⟩, .inl f3, t3, b3, p3, q3⟩
 | false =>
 cases decide (x5 = 7) with
 | true => exact ⟨_, _, rfl, k13, ⟨m1, n13, m3, m4, m5, m6, m7⟩, .inl f3, t3, b3, p3, q3⟩
 | false => exact ⟨_, _, rfl, k5, ⟨m1, m2, m3, m4, m5, m6, m7⟩, .inl f3, t3, b3, p3, q3⟩
end Go.Proofs.YtncpklppoancgaaGreat
namespace Go.Proofs.YtncpklppoancgaaGreat
open Go
set_option linter.unusedVariables false
set_option linter.unusedSimpArgs false
theorem Qs4 (h : House) (hf : h.Finds.length ≤ 1048576) (hs : h.Slots.length ≤ 1048576) : JB h = some ((h.Finds.filter fun x => QdI h.Slots x.Thing.Id).map fun x => x.Thing.Id) := by
 have hr := QoU h.Finds (fun x => QdI h.Slots x.Thing.Id) (fun x => x.Thing.Id) (step := Zo h h.Finds (ln h.Finds)) (fun i out hi ho => by
   obtain ⟨c, c1, c2⟩ := QmN h.Slots h.Finds[i].Thing.Id hs
   have c3 : decide (0 ≤ c) = QdI h.Slots h.Finds[i].Thing.Id := by
    have : decide (0 ≤ c) = !decide (c < 0) := by
     by_cases hc : c < 0
     ·rw [decide_eq_true hc, decide_eq_false (show ¬ 0 ≤ c by omega)]; rfl
     ·rw [decide_eq_false hc, decide_eq_true (show 0 ≤ c by omega)]; rfl
    rw [this, c2, Bool.not_not]
   simp only [Zo, QF hi, Qh hi, Qu hi, QU (show (i : Int) < 9223372036854775807 by omega), Xk (show out.length + 1 ≤ 2000000 by omega) (show 8 ≤ 1024 by omega), cond_true, Qa, c1, c3, Option.bind_some]
   cases QdI h.Slots h.Finds[i].Thing.Id <;> rfl)
  (fun out => by simp only [Zo, QH (Nat.le_refl _), cond_false])
 unfold JB; rw [hr]; rfl
end Go.Proofs.YtncpklppoancgaaGreat
namespace Go.Proofs.YtncpklppoancgaaGreat
open Go
set_option linter.unusedVariables false
set_option linter.unusedSimpArgs false
theorem QkY (a b : List Find) (hl : a.length = b.length) (hm : a.length ≤ 1048576) : run (VG a b (ln a)) 0 = some (bif eqL Zt a b then .brk () else .ret false) :=
 QbT a b Zt hl (fun i h h' => by
   simp only [VG, QF h, Qh h, Qh h', Qu h, Qu h', QU (show (i : Int) < 9223372036854775807 by omega), cond_true, Qa]
   cases Zt _ _ <;> rfl) (by simp only [VG, QH (Nat.le_refl _), cond_false])
theorem QoV (a b : List Find) (hm : a.length ≤ 1048576) : Jl a b = some (eqL Zt a b) := by
 unfold Jl
 by_cases h : a.length = b.length
 ·have h' : ln a = ln b := by rw [Qr, Qr, h]
  rw [QkY a b h hm, decide_eq_true h']
  cases eqL Zt a b <;> rfl
 ·have h' : ¬ ln a = ln b := by rw [Qr, Qr]; omega
  rw [decide_eq_false h', QdD h]; rfl
theorem QkH (a b : List Slot) (hl : a.length = b.length) (hm : a.length ≤ 1048576) : run (VC a b (ln a)) 0 = some (bif eqL Zw a b then .brk () else .ret false) :=
 QbT a b Zw hl (fun i h h' => by
   simp only [VC, QF h, Qh h, Qh h', Qu h, Qu h', QU (show (i : Int) < 9223372036854775807 by omega), cond_true, Qa]
   cases Zw _ _ <;> rfl) (by simp only [VC, QH (Nat.le_refl _), cond_false])
theorem Qog (a b : List Slot) (hm : a.length ≤ 1048576) : Jn a b = some (eqL Zw a b) := by
 unfold Jn
 by_cases h : a.length = b.length
 ·have h' : ln a = ln b := by rw [Qr, Qr, h]
  rw [QkH a b h hm, decide_eq_true h']
  cases eqL Zw a b <;> rfl
 ·have h' : ¬ ln a = ln b := by rw [Qr, Qr]; omega
  rw [decide_eq_false h', QdD h]; rfl
theorem Qjr (a b : List Claim) (hl : a.length = b.length) (hm : a.length ≤ 1048576) : run (Vr a b (ln a)) 0 = some (bif eqL Jr a b then .brk () else .ret false) :=
 QbT a b Jr hl (fun i h h' => by
   simp only [Vr, QF h, Qh h, Qh h', Qu h, Qu h', QU (show (i : Int) < 9223372036854775807 by omega), cond_true, Qa]
   cases Jr _ _ <;> rfl) (by simp only [Vr, QH (Nat.le_refl _), cond_false])
theorem Qnu (a b : List Claim) (hm : a.length ≤ 1048576) : XZ a b = some (eqL Jr a b) := by
 unfold XZ
 by_cases h : a.length = b.length
 ·have h' : ln a = ln b := by rw [Qr, Qr, h]
  rw [Qjr a b h hm, decide_eq_true h']
  cases eqL Jr a b <;> rfl
 ·have h' : ¬ ln a = ln b := by rw [Qr, Qr]; omega
  rw [decide_eq_false h', QdD h]; rfl
theorem Qjt (a b : List Trial) (hl : a.length = b.length) (hm : a.length ≤ 1048576) : run (Vq a b (ln a)) 0 = some (bif eqL Jq a b then .brk () else .ret false) :=
 QbT a b Jq hl (fun i h h' => by
   simp only [Vq, QF h, Qh h, Qh h', Qu h, Qu h', QU (show (i : Int) < 9223372036854775807 by omega), cond_true, Qa]
   cases Jq _ _ <;> rfl) (by simp only [Vq, QH (Nat.le_refl _), cond_false])
theorem Qmb (a b : List Trial) (hm : a.length ≤ 1048576) : XW a b = some (eqL Jq a b) := by
 unfold XW
 by_cases h : a.length = b.length
 ·have h' : ln a = ln b := by rw [Qr, Qr, h]
  rw [Qjt a b h hm, decide_eq_true h']
  cases eqL Jq a b <;> rfl
 ·have h' : ¬ ln a = ln b := by rw [Qr, Qr]; omega
  rw [decide_eq_false h', QdD h]; rfl
theorem Qlf (a b : List Hand) (hl : a.length = b.length) (hm : a.length ≤ 1048576) : run (VD a b (ln a)) 0 = some (bif eqL Zv a b then .brk () else .ret false) :=
 QbT a b Zv hl (fun i h h' => by
   simp only [VD, QF h, Qh h, Qh h', Qu h, Qu h', QU (show (i : Int) < 9223372036854775807 by omega), cond_true, Qa]
   cases Zv _ _ <;> rfl) (by simp only [VD, QH (Nat.le_refl _), cond_false])
theorem Qom (a b : List Hand) (hm : a.length ≤ 1048576) : Js a b = some (eqL Zv a b) := by
 unfold Js
 by_cases h : a.length = b.length
 ·have h' : ln a = ln b := by rw [Qr, Qr, h]
  rw [Qlf a b h hm, decide_eq_true h']
  cases eqL Zv a b <;> rfl
 ·have h' : ¬ ln a = ln b := by rw [Qr, Qr]; omega
  rw [decide_eq_false h', QdD h]; rfl
theorem QjI (a b : List Entry) (hl : a.length = b.length) (hm : a.length ≤ 1048576) : run (Vp a b (ln a)) 0 = some (bif eqL JR a b then .brk () else .ret false) :=
 QbT a b JR hl (fun i h h' => by
   simp only [Vp, QF h, Qh h, Qh h', Qu h, Qu h', QU (show (i : Int) < 9223372036854775807 by omega), cond_true, Qa]
   cases JR _ _ <;> rfl) (by simp only [Vp, QH (Nat.le_refl _), cond_false])
theorem Qmu (a b : List Entry) (hm : a.length ≤ 1048576) : XY a b = some (eqL JR a b) := by
 unfold XY
 by_cases h : a.length = b.length
 ·have h' : ln a = ln b := by rw [Qr, Qr, h]
  rw [QjI a b h hm, decide_eq_true h']
  cases eqL JR a b <;> rfl
 ·have h' : ¬ ln a = ln b := by rw [Qr, Qr]; omega
  rw [decide_eq_false h', QdD h]; rfl
theorem QkO (a b : List Mark) (hl : a.length = b.length) (hm : a.length ≤ 1048576) : run (VI a b (ln a)) 0 = some (bif eqL Zy a b then .brk () else .ret false) :=
 QbT a b Zy hl (fun i h h' => by
   simp only [VI, QF h, Qh h, Qh h', Qu h, Qu h', QU (show (i : Int) < 9223372036854775807 by omega), cond_true, Qa]
   cases Zy _ _ <;> rfl) (by simp only [VI, QH (Nat.le_refl _), cond_false])
theorem QnV (a b : List Mark) (hm : a.length ≤ 1048576) : Ju a b = some (eqL Zy a b) := by
 unfold Ju
 by_cases h : a.length = b.length
 ·have h' : ln a = ln b := by rw [Qr, Qr, h]
  rw [QkO a b h hm, decide_eq_true h']
  cases eqL Zy a b <;> rfl
 ·have h' : ¬ ln a = ln b := by rw [Qr, Qr]; omega
  rw [decide_eq_false h', QdD h]; rfl
theorem QaB {α : Type} {f : α → α → Bool} (h : ∀ x y, f x y = f y x) : ∀ a b : List α, eqL f a b = eqL f b a
 | [], [] => rfl
 | [], _ :: _ => rfl
 | _ :: _, [] => rfl
 | x :: a, y :: b => by unfold eqL; rw [h x y, QaB h a b]
theorem QaO {α : Type} {f : α → α → Bool} (h : ∀ x, f x x = true) : ∀ a : List α, eqL f a a = true
 | [] => rfl
 | x :: a => by unfold eqL; rw [h x, QaO h a]; rfl
theorem QlN (x y : Find) : Zt x y = Zt y x := by
 rw [Bool.eq_iff_iff]; simp only [Zt, Bool.and_eq_true, decide_eq_true_eq, and_true]; omega
theorem Qm6 (x : Find) : Zt x x = true := by simp [Zt]
theorem QnM (x y : Slot) : Zw x y = Zw y x := by
 rw [Bool.eq_iff_iff]; simp only [Zw, Bool.and_eq_true, decide_eq_true_eq, and_true]; omega
theorem Qme (x : Slot) : Zw x x = true := by simp [Zw]
theorem QkP (x y : Claim) : Jr x y = Jr y x := by
 rw [Bool.eq_iff_iff]; simp only [Jr, Bool.and_eq_true, decide_eq_true_eq, and_true]; omega
theorem QkZ (x : Claim) : Jr x x = true := by simp [Jr]
theorem Qll (x y : Trial) : Jq x y = Jq y x := by
 rw [Bool.eq_iff_iff]; simp only [Jq, Bool.and_eq_true, decide_eq_true_eq, and_true]; omega
theorem QkI (x : Trial) : Jq x x = true := by simp [Jq]
theorem Qnm (x y : Hand) : Zv x y = Zv y x := by
 rw [Bool.eq_iff_iff]; simp only [Zv, Bool.and_eq_true, decide_eq_true_eq, and_true]; omega
theorem Qna (x : Hand) : Zv x x = true := by simp [Zv]
theorem QkE (x y : Entry) : JR x y = JR y x := by
 rw [Bool.eq_iff_iff]; simp only [JR, Bool.and_eq_true, decide_eq_true_eq, and_true]; omega
theorem Qkq (x : Entry) : JR x x = true := by simp [JR]
theorem QmR (x y : Mark) : Zy x y = Zy y x := by
 rw [Bool.eq_iff_iff]; simp only [Zy, Bool.and_eq_true, decide_eq_true_eq, and_true]; omega
theorem Qmm (x : Mark) : Zy x x = true := by simp [Zy]
def Zg (x y : Secret) : Bool := decide (x.Thing = y.Thing) && (decide (x.Salt = y.Salt) && eqL Zy x.Marks y.Marks)
theorem Qjy (x y : Secret) : Zg x y = Zg y x := by
 unfold Zg
 rw [QaB QmR, show decide (x.Thing = y.Thing) = decide (y.Thing = x.Thing) from decide_eq_decide.2 eq_comm, show decide (x.Salt = y.Salt) = decide (y.Salt = x.Salt) from decide_eq_decide.2 eq_comm]
theorem Qjh (x : Secret) : Zg x x = true := by
 unfold Zg; rw [QaO Qmm]; simp
theorem Qjg (a b : List Secret) (hm : smL ZZ a) : Xs a b = some (eqL Zg a b) := by
 have hm1 := hm.1
 by_cases h : a.length = b.length
 ·have h' : ln a = ln b := by rw [Qr, Qr, h]
  have e2 : run (Ql b a (ln a)) 0 = some (bif eqL Zg a b then .brk () else .ret false) :=
   QbT a b Zg h (fun i hi hi' => by
    have hs : a[i].Marks.length ≤ 1048576 := hm.2 _ (List.getElem_mem hi)
    simp only [Ql, QF hi, Qh hi, Qh hi', Qu hi, Qu hi', QU (show (i : Int) < 9223372036854775807 by omega), cond_true, Qa, JH, QnV _ _ hs, Option.bind_some, Zg]
    cases decide (a[i].Thing = b[i].Thing) <;> cases decide (a[i].Salt = b[i].Salt) <;> cases eqL Zy a[i].Marks b[i].Marks <;> rfl) (by simp only [Ql, QH (Nat.le_refl _), cond_false])
  unfold Xs Qv
  rw [e2, decide_eq_true h']
  cases eqL Zg a b <;> rfl
 ·have h' : ¬ ln a = ln b := by rw [Qr, Qr]; omega
  unfold Xs Qv
  rw [decide_eq_false h', QdD h]; rfl
def eqH (a b : House) : Bool := decide (a.No = b.No) && (decide (a.Now = b.Now) && (eqL Zg a.Secrets b.Secrets && (eqL Zt a.Finds b.Finds && (eqL Zw a.Slots b.Slots && (eqL Jr a.Claims b.Claims && (eqL Jq a.Trials b.Trials && (eqL Zv a.Chain b.Chain && eqL JR a.Book b.Book)))))))
theorem Que (a b : House) : eqH a b = eqH b a := by
 unfold eqH
 rw [QaB Qjy, QaB QlN, QaB QnM, QaB QkP, QaB Qll, QaB Qnm, QaB QkE, show decide (a.No = b.No) = decide (b.No = a.No) from decide_eq_decide.2 eq_comm, show decide (a.Now = b.Now) = decide (b.Now = a.Now) from decide_eq_decide.2 eq_comm]
theorem QsB (a : House) : eqH a a = true := by
 unfold eqH
 rw [QaO Qjh, QaO Qm6, QaO Qme, QaO QkZ, QaO QkI, QaO Qna, QaO Qkq]
 simp
theorem QcT (a b : House) (hm : V0 a) : QM a b = some (eqH a b) := by
 obtain ⟨m1, m2, m3, m4, m5, m6, m7⟩ := hm
 unfold QM eqH
 rw [Qjg a.Secrets b.Secrets m2, QoV _ _ m1, Qog _ _ m3, Qnu _ _ m4, Qmb _ _ m5, Qom _ _ m6, Qmu _ _ m7]
 cases decide (a.No = b.No) <;> cases decide (a.Now = b.Now) <;> cases eqL Zg a.Secrets b.Secrets <;> cases eqL Zt a.Finds b.Finds <;> cases eqL Zw a.Slots b.Slots <;> cases eqL Jr a.Claims b.Claims <;> cases eqL Jq a.Trials b.Trials <;> first | rfl | (cases eqL Zv a.Chain b.Chain <;> rfl)
end Go.Proofs.YtncpklppoancgaaGreat
namespace Go.Proofs.YtncpklppoancgaaGreat
open Go
set_option linter.unusedVariables false
set_option linter.unusedSimpArgs false
theorem QxF (l : List Slot) (hl : l.length ≤ 1048576) : X2 l = some ((l.countP fun x => decide (x.Thing = 0) : Nat) : Int) := by
 have h := QbI (step := VQ l (ln l)) (fun i => ((((l.take i).countP fun x => decide (x.Thing = 0) : Nat) : Int), (i : Int))) (r := ((l.countP fun x => decide (x.Thing = 0) : Nat) : Int)) l.length (fun i hi => by
   have hc : (l.take i).countP (fun x => decide (x.Thing = 0)) ≤ 1048576 := Nat.le_trans List.countP_le_length (by rw [List.length_take]; omega)
   have hw := QU (i := (l.take i).countP (fun x => decide (x.Thing = 0))) (by omega)
   simp only [VQ, QF hi, Qh hi, Qu hi, cond_true, Qa, QU (show (i : Int) < 9223372036854775807 by omega), hw]
   rw [List.take_succ_eq_append_getElem hi, List.countP_append, List.countP_cons, List.countP_nil]
   cases decide (l[i].Thing = 0) <;> simp)
  (by simp only [VQ, QH (Nat.le_refl _), cond_false, List.take_length])
 unfold X2
 rw [show run (VQ l (ln l)) (0, 0) = _ from by simpa using h]; rfl
theorem Qik (l : List Slot) : ((l.countP fun x => decide (x.Thing = 0) : Nat) : Int) = ln l ↔ ∀ x ∈ l, x.Thing = 0 := by
 rw [Qr]
 constructor
 ·intro h x hx
  have := List.countP_eq_length.1 (show l.countP (fun x => decide (x.Thing = 0)) = l.length by omega) x hx
  simpa using this
 ·intro h
  rw [List.countP_eq_length.2 (fun x hx => by simpa using h x hx)]
theorem QuB (h : House) (m3 : h.Slots.length ≤ 1048576) (hf : h.Finds = []) (hk : Vl h = some true) : XD h.Chain h.No = some [] := by
 unfold Vl at hk
 cases hd : (!decide (ln h.Secrets = ln h.Finds)) with
 | true => rw [hd] at hk; cases hk
 | false =>
 rw [hd, cond_false] at hk
 obtain ⟨r, hr, hk⟩ := Option.bind_eq_some_iff.1 hk
 obtain ⟨o5, h5, hk⟩ := Option.bind_eq_some_iff.1 hk
 have m1 : h.Finds.length ≤ 1048576 := by rw [hf]; simp
 rw [hf, Qi] at h5
 simp only [Vt, show decide ((0 : Int) < ln ([] : List Find)) = false from rfl, cond_false, Option.bind_some] at h5
 injection h5 with h5
 subst h5
 simp only [evO] at hk
 have t3 := QcO h.Slots (fun x => decide (x.Thing = 0) || !decide (X8 h.Finds x.Thing < 0)) (r := false) (step := QX h r h.Slots (ln h.Slots))
  (fun i hi => by
   simp only [QX, QF hi, Qh hi, Qu hi, QU (show (i : Int) < 9223372036854775807 by omega), cond_true, Qa, (ZK h.Finds _ m1).2, Option.bind_some]
   cases decide (h.Slots[i].Thing = 0) <;> cases decide (X8 h.Finds h.Slots[i].Thing < 0) <;> rfl)
  (by simp only [QX, QH (Nat.le_refl _), cond_false])
 rw [t3] at hk
 rw [hr]
 cases r with
 | nil => rfl
 | cons x t =>
  exfalso
  have hrun : run (VJ h (x :: t) (ln (x :: t))) 0 = some (.ret false) := by
   rw [Qi]
   have h1 : decide ((0 : Int) < ln (x :: t)) = true := decide_eq_true (by rw [Qr, List.length_cons]; omega)
   have h2 : inb (x :: t) 0 = true := by rw [XC]; simp
   have h3 : X8 h.Finds (gt (x :: t) 0) = -1 := by rw [hf]; rfl
   simp only [VJ, h1, h2, cond_true, Qa, (ZK h.Finds _ m1).2, h3, Option.bind_some, show decide ((-1 : Int) < 0) = true from rfl]
  rw [hrun] at hk
  cases ha : h.Slots.all (fun x => decide (x.Thing = 0) || !decide (X8 h.Finds x.Thing < 0)) <;> rw [ha] at hk <;> cases hk
theorem QkJ (h : House) (hk : Vl h = some true) : h.Secrets.length = h.Finds.length := by
 unfold Vl at hk
 cases hd : (!decide (ln h.Secrets = ln h.Finds)) with
 | true => rw [hd] at hk; cases hk
 | false =>
  have : decide (ln h.Secrets = ln h.Finds) = true := by simpa using hd
  have := of_decide_eq_true this
  rw [Qr, Qr] at this
  omega
theorem Qrr (no : Int) (l : List Slot) (h1 : 1 ≤ no) (h2 : no ≤ 9) (hl : l.length ≤ 1048576) (hs : XN l = some true) (h0 : ∀ x ∈ l, x.Thing = 0) : Jo ⟨no, [], [], l, [], [], [], [], 0⟩ = some true := by
 have e1 : XG [] = some true := by unfold XG; rw [Qi]; rfl
 have e2 : VY [] = some true := by unfold VY; rw [Qi]; rfl
 have e3 : QP [] = some true := by unfold QP; rw [Qi]; rfl
 have e4 : Q7 [] = some true := by unfold Q7; rw [Qi]; rfl
 have e5 : Vw [] = some true := by unfold Vw; rw [Qi]; rfl
 have e6 : ∀ n, J6 [] n = some [] := fun n => by unfold J6; rw [Qi]; rfl
 have e7 : Xl ⟨no, [], [], l, [], [], [], [], 0⟩ = some true := by unfold Xl; rw [Qi]; rfl
 have e8 : run (Q2 ⟨no, [], [], l, [], [], [], [], 0⟩) 0 = some (.brk ()) := by
  have key : ∀ (m i : Nat), i + m = l.length → run (Q2 ⟨no, [], [], l, [], [], [], [], 0⟩) (i : Int) = some (.brk ()) := by
   intro m
   induction m with
   | zero =>
    intro i hi
    have : i = l.length := by omega
    subst this
    rw [Qi]; simp only [Q2, QH (Nat.le_refl _), cond_false, Option.bind_some]
   | succ m ih =>
    intro i hi
    have hlt : i < l.length := by omega
    rw [Qi]
    simp only [Q2, QF hlt, Qh hlt, Qu hlt, h0 _ (List.getElem_mem hlt), decide_true, Bool.not_true, cond_true, cond_false, Qa, Option.bind_some, QU (show (i : Int) < 9223372036854775807 by omega)]
    exact ih (i + 1) (by omega)
  exact key l.length 0 (by omega)
 have e9 : Xm ⟨no, [], [], l, [], [], [], [], 0⟩ = some true := by
  unfold Xm
  simp only [decide_true, Bool.not_true, cond_false, e6, Option.bind_some]
  rw [Qi]
  simp only [VS, show decide ((0 : Int) < ln ([] : List Int)) = false from rfl, cond_false, Option.bind_some, evO]
  rw [Qi]
  simp only [Vz, show decide ((0 : Int) < ln ([] : List Find)) = false from rfl, cond_false, Option.bind_some, evO]
  rw [e8]; rfl
 unfold Jo
 simp only [Qe, decide_eq_true h1, decide_eq_true h2, Bool.and_self, Bool.not_true, cond_false, e1, e2, e3, e4, e5, e7, e9, hs, Option.bind_some, show decide ((0 : Int) ≤ 0) = true from rfl, show decide ((0 : Int) ≤ 100000) = true from rfl, show decide ((0 : Int) < ln ([] : List Hand)) = false from rfl, show decide ((0 : Int) < ln ([] : List Entry)) = false from rfl, cond_true]
theorem QKq (no : Int) (l : List Slot) (hl : l.length ≤ 1048576) : ∃ r s, Jw no l = some r ∧ V0 r.1 ∧ Xd l = some s ∧ (r.2 = true → QZ r.1 = some true ∧ r.1.Finds = []) ∧ r.2 = (decide (1 ≤ no) && (decide (no ≤ 9) && (s && decide (((l.countP fun x => decide (x.Thing = 0) : Nat) : Int) = ln l)))) := by
 have hm : V0 ⟨no, [], [], l, [], [], [], [], 0⟩ := ⟨by simp, ⟨by simp, by simp⟩, hl, by simp, by simp, by simp, by simp⟩
 obtain ⟨s, s1, s2, _⟩ := Qh7 l hl
 obtain ⟨v1, v2⟩ := QjL _ hm
 have hz : V0 ⟨0, [], [], [], [], [], [], [], 0⟩ := ⟨by simp, ⟨by simp, by simp⟩, by simp, by simp, by simp, by simp, by simp⟩
 have hv : QgN ⟨no, [], [], l, [], [], [], [], 0⟩ = (decide (1 ≤ no) && (decide (no ≤ 9) && (s && decide (((l.countP fun x => decide (x.Thing = 0) : Nat) : Int) = ln l)))) := by
  rw [Bool.eq_iff_iff]
  simp only [Bool.and_eq_true, decide_eq_true_eq]
  constructor
  ·intro h
   have ho := QrD _ hm h
   have e := ho.tS
   rw [s1] at e
   injection e with e
   exact ⟨ho.no.1, ho.no.2, e, (Qik l).2 (QgU _ hl rfl ho.kept)⟩
  ·rintro ⟨h1, h2, rfl, h4⟩
   have := Qrr no l h1 h2 hl s1 ((Qik l).1 h4)
   rw [v1] at this
   injection this with this
 unfold Jw VT
 simp only [Xk (show 0 + l.length ≤ 2000000 by omega) (show 24 ≤ 1024 by omega), Qa, Option.bind_some, v2]
 cases hb : QgN ⟨no, [], [], l, [], [], [], [], 0⟩ with
 | true => exact ⟨_, s, rfl, hm, s2, fun _ => ⟨by rw [v2, hb], rfl⟩, by rw [← hv, hb]⟩
 | false => exact ⟨_, s, rfl, hz, s2, fun h => (by cases h), by rw [← hv, hb]⟩
end Go.Proofs.YtncpklppoancgaaGreat
