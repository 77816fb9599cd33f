/- The laws' own helpers, plainly: a copy is what it copies, and is equal to itself. No condition. -/
import Derived.Test.YtcpelionmmnogaaFn
import Derived.Test.YtcpelionmmnogaaPl
namespace Go.Proofs.Ytcpelionmmnogaa
open Go
set_option linter.unusedVariables false
set_option linter.unusedSimpArgs false
set_option linter.defProp false
set_option maxRecDepth 100000
theorem sz_small {n : Nat} (h0 : (n : Int) ≤ 9223372036854775807) (h : decide (w64 (1048576 - (n : Int)) < 0) = false) : n ≤ 1048576 := by
  have := of_decide_eq_false h
  rw [w64_in (by omega) (by omega)] at this; omega
theorem mkB_ok {n b : Nat} (h : n ≤ 1048576) (hb : b ≤ 1024) : mkB (n : Int) b = true := by
  unfold mkB
  have h1 : n * b ≤ 1048576 * 1024 := Nat.mul_le_mul h hb
  have h2 := Int.ofNat_le.2 h1
  rw [Int.natCast_mul] at h2
  have h3 : (n : Int) * (b : Int) ≤ 140737488355328 := by omega
  simp only [h3, Int.natCast_nonneg, decide_true, Bool.and_self]
theorem rm_ok {n b : Nat} (h : n ≤ 2000000) (hb : b ≤ 1024) : rm n b = true := by
  unfold rm
  have h1 : n * b ≤ 2000000 * 1024 := Nat.mul_le_mul h hb
  have h3 : n * b ≤ 140737488355328 := by omega
  simp only [h3, decide_true]
theorem toThing_id (a : Thing) : laws_toThing a = some a := by first | rfl | (simp only [laws_toThing, Option.bind_some]; done) | (simp only [laws_toThing, Option.bind_some]; rfl)
theorem toFind_id (a : Find) : laws_toFind a = some a := by first | rfl | (simp only [laws_toFind, toThing_id, Option.bind_some]; done) | (simp only [laws_toFind, toThing_id, Option.bind_some]; rfl)
theorem toFindS_id (a : List Find) (h : a.length ≤ 1048576) : laws_toFindS a = some a := by
  have hr := run_fill a (fun x => x) (⟨⟨0, 0, 0, 0, 0⟩, 0, 0, 0⟩ : Find) (step := laws_toFindS_l3 a) (by omega) (fun i out hi ho => by
    simp only [laws_toFindS_l3, lt_ln hi, inb_n hi, gt_n hi, toFind_id, inb_n (show i < out.length by omega), Int.toNat_natCast, w64_n (show (i : Int) < 9223372036854775807 by omega), cond_true, need_true, Option.bind_some])
    (fun out => by simp only [laws_toFindS_l3, ge_ln (Nat.le_refl _), cond_false])
  unfold laws_toFindS
  rw [ln_eq, mkB_ok h (by omega), Int.toNat_natCast]
  simp only [need_true, hr, List.map_id', Option.bind_some]
theorem toMark_id (a : Mark) : laws_toMark a = some a := by first | rfl | (simp only [laws_toMark, Option.bind_some]; done) | (simp only [laws_toMark, Option.bind_some]; rfl)
theorem toMarkS_id (a : List Mark) (h : a.length ≤ 1048576) : laws_toMarkS a = some a := by
  have hr := run_fill a (fun x => x) (⟨0, 0⟩ : Mark) (step := laws_toMarkS_l3 a) (by omega) (fun i out hi ho => by
    simp only [laws_toMarkS_l3, lt_ln hi, inb_n hi, gt_n hi, toMark_id, inb_n (show i < out.length by omega), Int.toNat_natCast, w64_n (show (i : Int) < 9223372036854775807 by omega), cond_true, need_true, Option.bind_some])
    (fun out => by simp only [laws_toMarkS_l3, ge_ln (Nat.le_refl _), cond_false])
  unfold laws_toMarkS
  rw [ln_eq, mkB_ok h (by omega), Int.toNat_natCast]
  simp only [need_true, hr, List.map_id', Option.bind_some]
theorem eqThing_refl (a : Thing) : laws_eqThing a a = some true := by simp [laws_eqThing]
theorem eqFind_refl (a : Find) : laws_eqFind a a = some true := by simp [laws_eqFind, eqThing_refl]
theorem eqMark_refl (a : Mark) : laws_eqMark a a = some true := by simp [laws_eqMark]
theorem eqMarkS_refl (a : List Mark) (h : a.length ≤ 1048576) : laws_eqMarkS a a = some true := by
  have hr := run_loop a (step := laws_eqMarkS_l4 a a) (fun i (_ : Unit) => (i : Int)) (fun _ _ _ => some (.inl ())) (fun _ => some (.brk ())) ()
    (fun i s hi => by simp only [laws_eqMarkS_l4, lt_ln hi, inb_n hi, gt_n hi, eqMark_refl, w64_n (show (i : Int) < 9223372036854775807 by omega), cond_true, cond_false, need_true, Option.bind_some, Bool.not_true, Option.map_some, Sum.map_inl, decide_true])
    (fun s => by simp only [laws_eqMarkS_l4, ge_ln (Nat.le_refl _), cond_false, Option.map_some])
  rw [loopI_fold (g := fun _ _ => ()) a 0 () (fun _ _ _ _ => rfl)] at hr
  unfold laws_eqMarkS
  simp only [decide_true, Bool.not_true, cond_false]
  rw [show ((0 : Int)) = ((0 : Nat) : Int) from rfl, hr]
  rfl
theorem eqBid_refl (a : Bid) : laws_eqBid a a = some true := by simp [laws_eqBid]
theorem eqBidS_refl (a : List Bid) (h : a.length ≤ 1048576) : laws_eqBidS a a = some true := by
  have hr := run_loop a (step := laws_eqBidS_l4 a a) (fun i (_ : Unit) => (i : Int)) (fun _ _ _ => some (.inl ())) (fun _ => some (.brk ())) ()
    (fun i s hi => by simp only [laws_eqBidS_l4, lt_ln hi, inb_n hi, gt_n hi, eqBid_refl, w64_n (show (i : Int) < 9223372036854775807 by omega), cond_true, cond_false, need_true, Option.bind_some, Bool.not_true, Option.map_some, Sum.map_inl, decide_true])
    (fun s => by simp only [laws_eqBidS_l4, ge_ln (Nat.le_refl _), cond_false, Option.map_some])
  rw [loopI_fold (g := fun _ _ => ()) a 0 () (fun _ _ _ _ => rfl)] at hr
  unfold laws_eqBidS
  simp only [decide_true, Bool.not_true, cond_false]
  rw [show ((0 : Int)) = ((0 : Nat) : Int) from rfl, hr]
  rfl
theorem eqFindS_refl (a : List Find) (h : a.length ≤ 1048576) : laws_eqFindS a a = some true := by
  have hr := run_loop a (step := laws_eqFindS_l4 a a) (fun i (_ : Unit) => (i : Int)) (fun _ _ _ => some (.inl ())) (fun _ => some (.brk ())) ()
    (fun i s hi => by simp only [laws_eqFindS_l4, lt_ln hi, inb_n hi, gt_n hi, eqFind_refl, w64_n (show (i : Int) < 9223372036854775807 by omega), cond_true, cond_false, need_true, Option.bind_some, Bool.not_true, Option.map_some, Sum.map_inl, decide_true])
    (fun s => by simp only [laws_eqFindS_l4, ge_ln (Nat.le_refl _), cond_false, Option.map_some])
  rw [loopI_fold (g := fun _ _ => ()) a 0 () (fun _ _ _ _ => rfl)] at hr
  unfold laws_eqFindS
  simp only [decide_true, Bool.not_true, cond_false]
  rw [show ((0 : Int)) = ((0 : Nat) : Int) from rfl, hr]
  rfl
/-- Small: what the laws' own budget lets through. -/
def smL {α : Type} (ok : α → Prop) (l : List α) : Prop := l.length ≤ 1048576 ∧ ∀ x ∈ l, ok x
theorem sz_flat {n : Nat} {left : Int} (hn : (n : Int) ≤ 9223372036854775807) (h0 : 0 ≤ left) (h1 : left ≤ 1048576) :
    ∃ r, (bif (decide (w64 (left - (n : Int)) < 0)) then some (-1) else some (w64 (left - (n : Int)))) = some r ∧ r ≤ left ∧ (r = -1 ∨ (0 ≤ r ∧ n ≤ 1048576)) := by
  rw [w64_in (by omega) (by omega)]
  by_cases h : left - (n : Int) < 0
  · exact ⟨-1, by rw [decide_eq_true h]; rfl, by omega, .inl rfl⟩
  · exact ⟨left - n, by rw [decide_eq_false h]; rfl, by omega, .inr ⟨by omega, by omega⟩⟩
theorem sz_run {α : Type} {l : List α} {sm : α → Prop} {sz : α → Int → Option Int} {step : (Int × Int) → Option ((Int × Int) ⊕ (Fl Int Int))}
    (hsz : ∀ x ∈ l, ∀ left, 0 ≤ left → left ≤ 1048576 → ∃ r, sz x left = some r ∧ r ≤ left ∧ (r = -1 ∨ (0 ≤ r ∧ sm x)))
    (h1 : ∀ (i : Nat) (left : Int) (h : i < l.length), step (left, (i : Int)) = (sz l[i] left).bind fun r => (bif (decide (r < 0)) then some (.inr (.ret (-1))) else some (.inl (r, ((i + 1 : Nat) : Int)))))
    (h2 : ∀ left, step (left, (l.length : Int)) = some (.inr (.brk left))) :
    ∀ (m i : Nat) (left : Int), i + m = l.length → 0 ≤ left → left ≤ 1048576 → ∃ c, run step (left, (i : Int)) = some c ∧ (c = .ret (-1) ∨ ∃ r, c = .brk r ∧ 0 ≤ r ∧ r ≤ left ∧ ∀ x ∈ l.drop i, sm x) := by
  intro m
  induction m with
  | zero =>
    intro i left hi g0 g1
    have : i = l.length := by omega
    subst this
    exact ⟨.brk left, by rw [run_eq, h2]; rfl, .inr ⟨left, rfl, g0, Int.le_refl _, by simp⟩⟩
  | succ m ih =>
    intro i left hi g0 g1
    have hlt : i < l.length := by omega
    obtain ⟨r, e, hr, h | ⟨h, hs⟩⟩ := hsz l[i] (List.getElem_mem hlt) left g0 g1
    · subst h
      exact ⟨.ret (-1), by rw [run_eq, h1 i left hlt, e]; rfl, .inl rfl⟩
    · obtain ⟨c, e2, h2⟩ := ih (i + 1) r (by omega) h (by omega)
      have hd : decide (r < 0) = false := decide_eq_false (by omega)
      refine ⟨c, by rw [run_eq, h1 i left hlt, e]; simp only [Option.bind_some, hd, cond_false]; exact e2, ?_⟩
      rcases h2 with h2 | ⟨r', h2, h3, h4, h5⟩
      · exact .inl h2
      · refine .inr ⟨r', h2, h3, by omega, fun x hx => ?_⟩
        rw [List.drop_eq_getElem_cons hlt] at hx
        rcases List.mem_cons.1 hx with rfl | hx
        · exact hs
        · exact h5 x hx
theorem szFindS_sm (a : List Find) (left : Int) (ha : a.length ≤ 9223372036854775807) (h0 : 0 ≤ left) (h1 : left ≤ 1048576) : ∃ r, laws_szFindS a left = some r ∧ r ≤ left ∧ (r = -1 ∨ (0 ≤ r ∧ a.length ≤ 1048576)) := by
  unfold laws_szFindS; rw [ln_eq]; exact sz_flat (by omega) h0 h1
theorem szMarkS_sm (a : List Mark) (left : Int) (ha : a.length ≤ 9223372036854775807) (h0 : 0 ≤ left) (h1 : left ≤ 1048576) : ∃ r, laws_szMarkS a left = some r ∧ r ≤ left ∧ (r = -1 ∨ (0 ≤ r ∧ a.length ≤ 1048576)) := by
  unfold laws_szMarkS; rw [ln_eq]; exact sz_flat (by omega) h0 h1
def sm_Event (x : Event) : Prop := x.Marks.length ≤ 1048576 ∧ x.Bids.length ≤ 1048576
theorem eqEvent_refl (a : Event) (h : sm_Event a) : laws_eqEvent a a = some true := by
  unfold sm_Event at h
  obtain ⟨s2, s6⟩ := h
  simp [laws_eqEvent, eqFind_refl, eqMarkS_refl _ s2, eqBidS_refl _ s6]
theorem eqEventS_refl (a : List Event) (h : smL sm_Event a) : laws_eqEventS a a = some true := by
  have hl := h.1
  have hr := run_loop a (step := laws_eqEventS_l4 a a) (fun i (_ : Unit) => (i : Int)) (fun _ _ _ => some (.inl ())) (fun _ => some (.brk ())) ()
    (fun i s hi => by simp only [laws_eqEventS_l4, lt_ln hi, inb_n hi, gt_n hi, eqEvent_refl _ (h.2 _ (List.getElem_mem hi)), w64_n (show (i : Int) < 9223372036854775807 by omega), cond_true, cond_false, need_true, Option.bind_some, Bool.not_true, Option.map_some, Sum.map_inl, decide_true])
    (fun s => by simp only [laws_eqEventS_l4, ge_ln (Nat.le_refl _), cond_false, Option.map_some])
  rw [loopI_fold (g := fun _ _ => ()) a 0 () (fun _ _ _ _ => rfl)] at hr
  unfold laws_eqEventS
  simp only [decide_true, Bool.not_true, cond_false]
  rw [show ((0 : Int)) = ((0 : Nat) : Int) from rfl, hr]
  rfl
end Go.Proofs.Ytcpelionmmnogaa
