/- The laws' own helpers, plainly: a copy is what it copies, and is equal to itself. No condition. -/
import Derived.Test.YtcdffihcfeajfaaGreatFn
import Derived.Test.YtcdffihcfeajfaaGreatPl
namespace Go.Proofs.YtcdffihcfeajfaaGreat
open Go
set_option maxHeartbeats 4000000
set_option linter.unusedVariables false
set_option linter.unusedSimpArgs false
set_option linter.defProp false
set_option maxRecDepth 100000
theorem sz_small {n : Nat} (h0 : (n : Int) ≤ 9223372036854775807) (h : decide (w64 (1048576 - (n : Int)) < 0) = false) : n ≤ 1048576 := by
  have := of_decide_eq_false h
  rw [w64_in (by omega) (by omega)] at this; omega
theorem mkB_ok {n b : Nat} (h : n ≤ 1048576) (hb : b ≤ 1024) : mkB (n : Int) b = true := by
  unfold mkB
  have h1 : n * b ≤ 1048576 * 1024 := Nat.mul_le_mul h hb
  have h2 := Int.ofNat_le.2 h1
  rw [Int.natCast_mul] at h2
  have h3 : (n : Int) * (b : Int) ≤ 140737488355328 := by omega
  simp only [h3, Int.natCast_nonneg, decide_true, Bool.and_self]
theorem rm_ok {n b : Nat} (h : n ≤ 2000000) (hb : b ≤ 1024) : rm n b = true := by
  unfold rm
  have h1 : n * b ≤ 2000000 * 1024 := Nat.mul_le_mul h hb
  have h3 : n * b ≤ 140737488355328 := by omega
  simp only [h3, decide_true]
theorem toThing_id (a : Thing) : laws_toThing a = some a := by first | rfl | (simp only [laws_toThing, Option.bind_some]; done) | (simp only [laws_toThing, Option.bind_some]; rfl)
theorem toFind_id (a : Find) : laws_toFind a = some a := by first | rfl | (simp only [laws_toFind, toThing_id, Option.bind_some]; done) | (simp only [laws_toFind, toThing_id, Option.bind_some]; rfl)
theorem toFindS_id (a : List Find) (h : a.length ≤ 1048576) : laws_toFindS a = some a := by
  have hr := run_fill a (fun x => x) (⟨⟨0, 0, 0, 0, 0⟩, 0, 0, 0⟩ : Find) (step := laws_toFindS_l3 a) (by omega) (fun i out hi ho => by
    simp only [laws_toFindS_l3, lt_ln hi, inb_n hi, gt_n hi, toFind_id, inb_n (show i < out.length by omega), Int.toNat_natCast, w64_n (show (i : Int) < 9223372036854775807 by omega), cond_true, need_true, Option.bind_some])
    (fun out => by simp only [laws_toFindS_l3, ge_ln (Nat.le_refl _), cond_false])
  unfold laws_toFindS
  rw [ln_eq, mkB_ok h (by omega), Int.toNat_natCast]
  simp only [need_true, hr, List.map_id', Option.bind_some]
theorem toMark_id (a : Mark) : laws_toMark a = some a := by first | rfl | (simp only [laws_toMark, Option.bind_some]; done) | (simp only [laws_toMark, Option.bind_some]; rfl)
theorem toMarkS_id (a : List Mark) (h : a.length ≤ 1048576) : laws_toMarkS a = some a := by
  have hr := run_fill a (fun x => x) (⟨0, 0⟩ : Mark) (step := laws_toMarkS_l3 a) (by omega) (fun i out hi ho => by
    simp only [laws_toMarkS_l3, lt_ln hi, inb_n hi, gt_n hi, toMark_id, inb_n (show i < out.length by omega), Int.toNat_natCast, w64_n (show (i : Int) < 9223372036854775807 by omega), cond_true, need_true, Option.bind_some])
    (fun out => by simp only [laws_toMarkS_l3, ge_ln (Nat.le_refl _), cond_false])
  unfold laws_toMarkS
  rw [ln_eq, mkB_ok h (by omega), Int.toNat_natCast]
  simp only [need_true, hr, List.map_id', Option.bind_some]
theorem toSlot_id (a : Slot) : laws_toSlot a = some a := by first | rfl | (simp only [laws_toSlot, Option.bind_some]; done) | (simp only [laws_toSlot, Option.bind_some]; rfl)
theorem toSlotS_id (a : List Slot) (h : a.length ≤ 1048576) : laws_toSlotS a = some a := by
  have hr := run_fill a (fun x => x) (⟨0, 0, 0⟩ : Slot) (step := laws_toSlotS_l3 a) (by omega) (fun i out hi ho => by
    simp only [laws_toSlotS_l3, lt_ln hi, inb_n hi, gt_n hi, toSlot_id, inb_n (show i < out.length by omega), Int.toNat_natCast, w64_n (show (i : Int) < 9223372036854775807 by omega), cond_true, need_true, Option.bind_some])
    (fun out => by simp only [laws_toSlotS_l3, ge_ln (Nat.le_refl _), cond_false])
  unfold laws_toSlotS
  rw [ln_eq, mkB_ok h (by omega), Int.toNat_natCast]
  simp only [need_true, hr, List.map_id', Option.bind_some]
theorem toClaim_id (a : Claim) : laws_toClaim a = some a := by first | rfl | (simp only [laws_toClaim, Option.bind_some]; done) | (simp only [laws_toClaim, Option.bind_some]; rfl)
theorem toClaimS_id (a : List Claim) (h : a.length ≤ 1048576) : laws_toClaimS a = some a := by
  have hr := run_fill a (fun x => x) (⟨0, 0, 0, 0, 0⟩ : Claim) (step := laws_toClaimS_l3 a) (by omega) (fun i out hi ho => by
    simp only [laws_toClaimS_l3, lt_ln hi, inb_n hi, gt_n hi, toClaim_id, inb_n (show i < out.length by omega), Int.toNat_natCast, w64_n (show (i : Int) < 9223372036854775807 by omega), cond_true, need_true, Option.bind_some])
    (fun out => by simp only [laws_toClaimS_l3, ge_ln (Nat.le_refl _), cond_false])
  unfold laws_toClaimS
  rw [ln_eq, mkB_ok h (by omega), Int.toNat_natCast]
  simp only [need_true, hr, List.map_id', Option.bind_some]
theorem toTrial_id (a : Trial) : laws_toTrial a = some a := by first | rfl | (simp only [laws_toTrial, Option.bind_some]; done) | (simp only [laws_toTrial, Option.bind_some]; rfl)
theorem toTrialS_id (a : List Trial) (h : a.length ≤ 1048576) : laws_toTrialS a = some a := by
  have hr := run_fill a (fun x => x) (⟨0, 0, 0, 0⟩ : Trial) (step := laws_toTrialS_l3 a) (by omega) (fun i out hi ho => by
    simp only [laws_toTrialS_l3, lt_ln hi, inb_n hi, gt_n hi, toTrial_id, inb_n (show i < out.length by omega), Int.toNat_natCast, w64_n (show (i : Int) < 9223372036854775807 by omega), cond_true, need_true, Option.bind_some])
    (fun out => by simp only [laws_toTrialS_l3, ge_ln (Nat.le_refl _), cond_false])
  unfold laws_toTrialS
  rw [ln_eq, mkB_ok h (by omega), Int.toNat_natCast]
  simp only [need_true, hr, List.map_id', Option.bind_some]
theorem toHand_id (a : Hand) : laws_toHand a = some a := by first | rfl | (simp only [laws_toHand, Option.bind_some]; done) | (simp only [laws_toHand, Option.bind_some]; rfl)
theorem toHandS_id (a : List Hand) (h : a.length ≤ 1048576) : laws_toHandS a = some a := by
  have hr := run_fill a (fun x => x) (⟨0, 0, 0, 0, 0⟩ : Hand) (step := laws_toHandS_l3 a) (by omega) (fun i out hi ho => by
    simp only [laws_toHandS_l3, lt_ln hi, inb_n hi, gt_n hi, toHand_id, inb_n (show i < out.length by omega), Int.toNat_natCast, w64_n (show (i : Int) < 9223372036854775807 by omega), cond_true, need_true, Option.bind_some])
    (fun out => by simp only [laws_toHandS_l3, ge_ln (Nat.le_refl _), cond_false])
  unfold laws_toHandS
  rw [ln_eq, mkB_ok h (by omega), Int.toNat_natCast]
  simp only [need_true, hr, List.map_id', Option.bind_some]
theorem toEntry_id (a : Entry) : laws_toEntry a = some a := by first | rfl | (simp only [laws_toEntry, Option.bind_some]; done) | (simp only [laws_toEntry, Option.bind_some]; rfl)
theorem toEntryS_id (a : List Entry) (h : a.length ≤ 1048576) : laws_toEntryS a = some a := by
  have hr := run_fill a (fun x => x) (⟨0, 0, 0, 0⟩ : Entry) (step := laws_toEntryS_l3 a) (by omega) (fun i out hi ho => by
    simp only [laws_toEntryS_l3, lt_ln hi, inb_n hi, gt_n hi, toEntry_id, inb_n (show i < out.length by omega), Int.toNat_natCast, w64_n (show (i : Int) < 9223372036854775807 by omega), cond_true, need_true, Option.bind_some])
    (fun out => by simp only [laws_toEntryS_l3, ge_ln (Nat.le_refl _), cond_false])
  unfold laws_toEntryS
  rw [ln_eq, mkB_ok h (by omega), Int.toNat_natCast]
  simp only [need_true, hr, List.map_id', Option.bind_some]
theorem eqThing_refl (a : Thing) : laws_eqThing a a = some true := by simp [laws_eqThing]
theorem eqFind_refl (a : Find) : laws_eqFind a a = some true := by simp [laws_eqFind, eqThing_refl]
theorem eqFindS_refl (a : List Find) (h : a.length ≤ 1048576) : laws_eqFindS a a = some true := by
  have hr := run_loop a (step := laws_eqFindS_l4 a a) (fun i (_ : Unit) => (i : Int)) (fun _ _ _ => some (.inl ())) (fun _ => some (.brk ())) ()
    (fun i s hi => by simp only [laws_eqFindS_l4, lt_ln hi, inb_n hi, gt_n hi, eqFind_refl, w64_n (show (i : Int) < 9223372036854775807 by omega), cond_true, cond_false, need_true, Option.bind_some, Bool.not_true, Option.map_some, Sum.map_inl, decide_true])
    (fun s => by simp only [laws_eqFindS_l4, ge_ln (Nat.le_refl _), cond_false, Option.map_some])
  rw [loopI_fold (g := fun _ _ => ()) a 0 () (fun _ _ _ _ => rfl)] at hr
  unfold laws_eqFindS
  simp only [decide_true, Bool.not_true, cond_false]
  rw [show ((0 : Int)) = ((0 : Nat) : Int) from rfl, hr]
  rfl
theorem eqMark_refl (a : Mark) : laws_eqMark a a = some true := by simp [laws_eqMark]
theorem eqMarkS_refl (a : List Mark) (h : a.length ≤ 1048576) : laws_eqMarkS a a = some true := by
  have hr := run_loop a (step := laws_eqMarkS_l4 a a) (fun i (_ : Unit) => (i : Int)) (fun _ _ _ => some (.inl ())) (fun _ => some (.brk ())) ()
    (fun i s hi => by simp only [laws_eqMarkS_l4, lt_ln hi, inb_n hi, gt_n hi, eqMark_refl, w64_n (show (i : Int) < 9223372036854775807 by omega), cond_true, cond_false, need_true, Option.bind_some, Bool.not_true, Option.map_some, Sum.map_inl, decide_true])
    (fun s => by simp only [laws_eqMarkS_l4, ge_ln (Nat.le_refl _), cond_false, Option.map_some])
  rw [loopI_fold (g := fun _ _ => ()) a 0 () (fun _ _ _ _ => rfl)] at hr
  unfold laws_eqMarkS
  simp only [decide_true, Bool.not_true, cond_false]
  rw [show ((0 : Int)) = ((0 : Nat) : Int) from rfl, hr]
  rfl
theorem eqSlot_refl (a : Slot) : laws_eqSlot a a = some true := by simp [laws_eqSlot]
theorem eqSlotS_refl (a : List Slot) (h : a.length ≤ 1048576) : laws_eqSlotS a a = some true := by
  have hr := run_loop a (step := laws_eqSlotS_l4 a a) (fun i (_ : Unit) => (i : Int)) (fun _ _ _ => some (.inl ())) (fun _ => some (.brk ())) ()
    (fun i s hi => by simp only [laws_eqSlotS_l4, lt_ln hi, inb_n hi, gt_n hi, eqSlot_refl, w64_n (show (i : Int) < 9223372036854775807 by omega), cond_true, cond_false, need_true, Option.bind_some, Bool.not_true, Option.map_some, Sum.map_inl, decide_true])
    (fun s => by simp only [laws_eqSlotS_l4, ge_ln (Nat.le_refl _), cond_false, Option.map_some])
  rw [loopI_fold (g := fun _ _ => ()) a 0 () (fun _ _ _ _ => rfl)] at hr
  unfold laws_eqSlotS
  simp only [decide_true, Bool.not_true, cond_false]
  rw [show ((0 : Int)) = ((0 : Nat) : Int) from rfl, hr]
  rfl
theorem eqClaim_refl (a : Claim) : laws_eqClaim a a = some true := by simp [laws_eqClaim]
theorem eqClaimS_refl (a : List Claim) (h : a.length ≤ 1048576) : laws_eqClaimS a a = some true := by
  have hr := run_loop a (step := laws_eqClaimS_l4 a a) (fun i (_ : Unit) => (i : Int)) (fun _ _ _ => some (.inl ())) (fun _ => some (.brk ())) ()
    (fun i s hi => by simp only [laws_eqClaimS_l4, lt_ln hi, inb_n hi, gt_n hi, eqClaim_refl, w64_n (show (i : Int) < 9223372036854775807 by omega), cond_true, cond_false, need_true, Option.bind_some, Bool.not_true, Option.map_some, Sum.map_inl, decide_true])
    (fun s => by simp only [laws_eqClaimS_l4, ge_ln (Nat.le_refl _), cond_false, Option.map_some])
  rw [loopI_fold (g := fun _ _ => ()) a 0 () (fun _ _ _ _ => rfl)] at hr
  unfold laws_eqClaimS
  simp only [decide_true, Bool.not_true, cond_false]
  rw [show ((0 : Int)) = ((0 : Nat) : Int) from rfl, hr]
  rfl
theorem eqTrial_refl (a : Trial) : laws_eqTrial a a = some true := by simp [laws_eqTrial]
theorem eqTrialS_refl (a : List Trial) (h : a.length ≤ 1048576) : laws_eqTrialS a a = some true := by
  have hr := run_loop a (step := laws_eqTrialS_l4 a a) (fun i (_ : Unit) => (i : Int)) (fun _ _ _ => some (.inl ())) (fun _ => some (.brk ())) ()
    (fun i s hi => by simp only [laws_eqTrialS_l4, lt_ln hi, inb_n hi, gt_n hi, eqTrial_refl, w64_n (show (i : Int) < 9223372036854775807 by omega), cond_true, cond_false, need_true, Option.bind_some, Bool.not_true, Option.map_some, Sum.map_inl, decide_true])
    (fun s => by simp only [laws_eqTrialS_l4, ge_ln (Nat.le_refl _), cond_false, Option.map_some])
  rw [loopI_fold (g := fun _ _ => ()) a 0 () (fun _ _ _ _ => rfl)] at hr
  unfold laws_eqTrialS
  simp only [decide_true, Bool.not_true, cond_false]
  rw [show ((0 : Int)) = ((0 : Nat) : Int) from rfl, hr]
  rfl
theorem eqHand_refl (a : Hand) : laws_eqHand a a = some true := by simp [laws_eqHand]
theorem eqHandS_refl (a : List Hand) (h : a.length ≤ 1048576) : laws_eqHandS a a = some true := by
  have hr := run_loop a (step := laws_eqHandS_l4 a a) (fun i (_ : Unit) => (i : Int)) (fun _ _ _ => some (.inl ())) (fun _ => some (.brk ())) ()
    (fun i s hi => by simp only [laws_eqHandS_l4, lt_ln hi, inb_n hi, gt_n hi, eqHand_refl, w64_n (show (i : Int) < 9223372036854775807 by omega), cond_true, cond_false, need_true, Option.bind_some, Bool.not_true, Option.map_some, Sum.map_inl, decide_true])
    (fun s => by simp only [laws_eqHandS_l4, ge_ln (Nat.le_refl _), cond_false, Option.map_some])
  rw [loopI_fold (g := fun _ _ => ()) a 0 () (fun _ _ _ _ => rfl)] at hr
  unfold laws_eqHandS
  simp only [decide_true, Bool.not_true, cond_false]
  rw [show ((0 : Int)) = ((0 : Nat) : Int) from rfl, hr]
  rfl
theorem eqEntry_refl (a : Entry) : laws_eqEntry a a = some true := by simp [laws_eqEntry]
theorem eqEntryS_refl (a : List Entry) (h : a.length ≤ 1048576) : laws_eqEntryS a a = some true := by
  have hr := run_loop a (step := laws_eqEntryS_l4 a a) (fun i (_ : Unit) => (i : Int)) (fun _ _ _ => some (.inl ())) (fun _ => some (.brk ())) ()
    (fun i s hi => by simp only [laws_eqEntryS_l4, lt_ln hi, inb_n hi, gt_n hi, eqEntry_refl, w64_n (show (i : Int) < 9223372036854775807 by omega), cond_true, cond_false, need_true, Option.bind_some, Bool.not_true, Option.map_some, Sum.map_inl, decide_true])
    (fun s => by simp only [laws_eqEntryS_l4, ge_ln (Nat.le_refl _), cond_false, Option.map_some])
  rw [loopI_fold (g := fun _ _ => ()) a 0 () (fun _ _ _ _ => rfl)] at hr
  unfold laws_eqEntryS
  simp only [decide_true, Bool.not_true, cond_false]
  rw [show ((0 : Int)) = ((0 : Nat) : Int) from rfl, hr]
  rfl
/-- Small: what the laws' own budget lets through. -/
def smL {α : Type} (ok : α → Prop) (l : List α) : Prop := l.length ≤ 1048576 ∧ ∀ x ∈ l, ok x
theorem sz_flat {n : Nat} {left : Int} (hn : (n : Int) ≤ 9223372036854775807) (h0 : 0 ≤ left) (h1 : left ≤ 1048576) :
    ∃ r, (bif (decide (w64 (left - (n : Int)) < 0)) then some (-1) else some (w64 (left - (n : Int)))) = some r ∧ r ≤ left ∧ (r = -1 ∨ (0 ≤ r ∧ n ≤ 1048576)) := by
  rw [w64_in (by omega) (by omega)]
  by_cases h : left - (n : Int) < 0
  · exact ⟨-1, by rw [decide_eq_true h]; rfl, by omega, .inl rfl⟩
  · exact ⟨left - n, by rw [decide_eq_false h]; rfl, by omega, .inr ⟨by omega, by omega⟩⟩
theorem sz_run {α : Type} {l : List α} {sm : α → Prop} {sz : α → Int → Option Int} {step : (Int × Int) → Option ((Int × Int) ⊕ (Fl Int Int))}
    (hsz : ∀ x ∈ l, ∀ left, 0 ≤ left → left ≤ 1048576 → ∃ r, sz x left = some r ∧ r ≤ left ∧ (r = -1 ∨ (0 ≤ r ∧ sm x)))
    (h1 : ∀ (i : Nat) (left : Int) (h : i < l.length), step (left, (i : Int)) = (sz l[i] left).bind fun r => (bif (decide (r < 0)) then some (.inr (.ret (-1))) else some (.inl (r, ((i + 1 : Nat) : Int)))))
    (h2 : ∀ left, step (left, (l.length : Int)) = some (.inr (.brk left))) :
    ∀ (m i : Nat) (left : Int), i + m = l.length → 0 ≤ left → left ≤ 1048576 → ∃ c, run step (left, (i : Int)) = some c ∧ (c = .ret (-1) ∨ ∃ r, c = .brk r ∧ 0 ≤ r ∧ r ≤ left ∧ ∀ x ∈ l.drop i, sm x) := by
  intro m
  induction m with
  | zero =>
    intro i left hi g0 g1
    have : i = l.length := by omega
    subst this
    exact ⟨.brk left, by rw [run_eq, h2]; rfl, .inr ⟨left, rfl, g0, Int.le_refl _, by simp⟩⟩
  | succ m ih =>
    intro i left hi g0 g1
    have hlt : i < l.length := by omega
    obtain ⟨r, e, hr, h | ⟨h, hs⟩⟩ := hsz l[i] (List.getElem_mem hlt) left g0 g1
    · subst h
      exact ⟨.ret (-1), by rw [run_eq, h1 i left hlt, e]; rfl, .inl rfl⟩
    · obtain ⟨c, e2, h2⟩ := ih (i + 1) r (by omega) h (by omega)
      have hd : decide (r < 0) = false := decide_eq_false (by omega)
      refine ⟨c, by rw [run_eq, h1 i left hlt, e]; simp only [Option.bind_some, hd, cond_false]; exact e2, ?_⟩
      rcases h2 with h2 | ⟨r', h2, h3, h4, h5⟩
      · exact .inl h2
      · refine .inr ⟨r', h2, h3, by omega, fun x hx => ?_⟩
        rw [List.drop_eq_getElem_cons hlt] at hx
        rcases List.mem_cons.1 hx with rfl | hx
        · exact hs
        · exact h5 x hx
theorem szFindS_sm (a : List Find) (left : Int) (ha : a.length ≤ 9223372036854775807) (h0 : 0 ≤ left) (h1 : left ≤ 1048576) : ∃ r, laws_szFindS a left = some r ∧ r ≤ left ∧ (r = -1 ∨ (0 ≤ r ∧ a.length ≤ 1048576)) := by
  unfold laws_szFindS; rw [ln_eq]; exact sz_flat (by omega) h0 h1
theorem szMarkS_sm (a : List Mark) (left : Int) (ha : a.length ≤ 9223372036854775807) (h0 : 0 ≤ left) (h1 : left ≤ 1048576) : ∃ r, laws_szMarkS a left = some r ∧ r ≤ left ∧ (r = -1 ∨ (0 ≤ r ∧ a.length ≤ 1048576)) := by
  unfold laws_szMarkS; rw [ln_eq]; exact sz_flat (by omega) h0 h1
def sm_Secret (x : Secret) : Prop := x.Marks.length ≤ 1048576
theorem szSecret_sm (a : Secret) (left : Int) (ha : okSecret a) (h0 : 0 ≤ left) (h1 : left ≤ 1048576) : ∃ r, laws_szSecret a left = some r ∧ r ≤ left ∧ (r = -1 ∨ (0 ≤ r ∧ sm_Secret a)) := by
  obtain ⟨q0, q1, q2⟩ := ha
  unfold laws_szSecret
  obtain ⟨r1, e1, l1, h | ⟨p1, s1⟩⟩ := szMarkS_sm a.Marks left q1.1 h0 (by omega)
  · subst h; exact ⟨-1, by simp only [e1, Option.bind_some, cond_false]; rfl, by omega, .inl rfl⟩
  exact ⟨r1, by simp only [e1, decide_eq_false (show ¬ r1 < 0 by omega), Option.bind_some, cond_false], by omega, .inr ⟨p1, s1⟩⟩
theorem szSecretS_sm (a : List Secret) (left : Int) (ha : (okL okSecret) a) (h0 : 0 ≤ left) (h1 : left ≤ 1048576) : ∃ r, laws_szSecretS a left = some r ∧ r ≤ left ∧ (r = -1 ∨ (0 ≤ r ∧ smL sm_Secret a)) := by
  have hl := ha.1
  unfold laws_szSecretS
  rw [ln_eq, w64_in (by omega) (by omega)]
  by_cases h : left - (a.length : Int) < 0
  · exact ⟨-1, by rw [decide_eq_true h]; rfl, by omega, .inl rfl⟩
  rw [decide_eq_false h]
  obtain ⟨c, e, hc⟩ := sz_run (l := a) (sm := sm_Secret) (sz := laws_szSecret) (step := laws_szSecretS_l5 a) (fun x hx left g0 g1 => szSecret_sm x left (ha.2 x hx) g0 g1)
    (fun i left hi => by simp only [laws_szSecretS_l5, lt_ln hi, inb_n hi, gt_n hi, w64_n (show (i : Int) < 9223372036854775807 by omega), cond_true, need_true])
    (fun left => by simp only [laws_szSecretS_l5, ge_ln (Nat.le_refl _), cond_false]) a.length 0 (left - a.length) (by omega) (by omega) (by omega)
  rcases hc with rfl | ⟨r, rfl, g0, g1, g2⟩
  · exact ⟨-1, by simp only [cond_false]; rw [show (0 : Int) = ((0 : Nat) : Int) from rfl, e]; rfl, by omega, .inl rfl⟩
  · exact ⟨r, by simp only [cond_false]; rw [show (0 : Int) = ((0 : Nat) : Int) from rfl, e]; rfl, by omega, .inr ⟨g0, by omega, by simpa using g2⟩⟩
theorem szSlotS_sm (a : List Slot) (left : Int) (ha : a.length ≤ 9223372036854775807) (h0 : 0 ≤ left) (h1 : left ≤ 1048576) : ∃ r, laws_szSlotS a left = some r ∧ r ≤ left ∧ (r = -1 ∨ (0 ≤ r ∧ a.length ≤ 1048576)) := by
  unfold laws_szSlotS; rw [ln_eq]; exact sz_flat (by omega) h0 h1
theorem szClaimS_sm (a : List Claim) (left : Int) (ha : a.length ≤ 9223372036854775807) (h0 : 0 ≤ left) (h1 : left ≤ 1048576) : ∃ r, laws_szClaimS a left = some r ∧ r ≤ left ∧ (r = -1 ∨ (0 ≤ r ∧ a.length ≤ 1048576)) := by
  unfold laws_szClaimS; rw [ln_eq]; exact sz_flat (by omega) h0 h1
theorem szTrialS_sm (a : List Trial) (left : Int) (ha : a.length ≤ 9223372036854775807) (h0 : 0 ≤ left) (h1 : left ≤ 1048576) : ∃ r, laws_szTrialS a left = some r ∧ r ≤ left ∧ (r = -1 ∨ (0 ≤ r ∧ a.length ≤ 1048576)) := by
  unfold laws_szTrialS; rw [ln_eq]; exact sz_flat (by omega) h0 h1
theorem szHandS_sm (a : List Hand) (left : Int) (ha : a.length ≤ 9223372036854775807) (h0 : 0 ≤ left) (h1 : left ≤ 1048576) : ∃ r, laws_szHandS a left = some r ∧ r ≤ left ∧ (r = -1 ∨ (0 ≤ r ∧ a.length ≤ 1048576)) := by
  unfold laws_szHandS; rw [ln_eq]; exact sz_flat (by omega) h0 h1
theorem szEntryS_sm (a : List Entry) (left : Int) (ha : a.length ≤ 9223372036854775807) (h0 : 0 ≤ left) (h1 : left ≤ 1048576) : ∃ r, laws_szEntryS a left = some r ∧ r ≤ left ∧ (r = -1 ∨ (0 ≤ r ∧ a.length ≤ 1048576)) := by
  unfold laws_szEntryS; rw [ln_eq]; exact sz_flat (by omega) h0 h1
def sm_House (x : House) : Prop := x.Finds.length ≤ 1048576 ∧ smL sm_Secret x.Secrets ∧ x.Slots.length ≤ 1048576 ∧ x.Claims.length ≤ 1048576 ∧ x.Trials.length ≤ 1048576 ∧ x.Chain.length ≤ 1048576 ∧ x.Book.length ≤ 1048576
theorem szHouse_sm (a : House) (left : Int) (ha : okHouse a) (h0 : 0 ≤ left) (h1 : left ≤ 1048576) : ∃ r, laws_szHouse a left = some r ∧ r ≤ left ∧ (r = -1 ∨ (0 ≤ r ∧ sm_House a)) := by
  obtain ⟨q0, q1, q2, q3, q4, q5, q6, q7, q8⟩ := ha
  unfold laws_szHouse
  obtain ⟨r1, e1, l1, h | ⟨p1, s1⟩⟩ := szFindS_sm a.Finds left q1.1 h0 (by omega)
  · subst h; exact ⟨-1, by simp only [e1, Option.bind_some, cond_false]; rfl, by omega, .inl rfl⟩
  obtain ⟨r2, e2, l2, h | ⟨p2, s2⟩⟩ := szSecretS_sm a.Secrets r1 q2 p1 (by omega)
  · subst h; exact ⟨-1, by simp only [e1, e2, decide_eq_false (show ¬ r1 < 0 by omega), Option.bind_some, cond_false]; rfl, by omega, .inl rfl⟩
  obtain ⟨r3, e3, l3, h | ⟨p3, s3⟩⟩ := szSlotS_sm a.Slots r2 q3.1 p2 (by omega)
  · subst h; exact ⟨-1, by simp only [e1, e2, e3, decide_eq_false (show ¬ r1 < 0 by omega), decide_eq_false (show ¬ r2 < 0 by omega), Option.bind_some, cond_false]; rfl, by omega, .inl rfl⟩
  obtain ⟨r4, e4, l4, h | ⟨p4, s4⟩⟩ := szClaimS_sm a.Claims r3 q4.1 p3 (by omega)
  · subst h; exact ⟨-1, by simp only [e1, e2, e3, e4, decide_eq_false (show ¬ r1 < 0 by omega), decide_eq_false (show ¬ r2 < 0 by omega), decide_eq_false (show ¬ r3 < 0 by omega), Option.bind_some, cond_false]; rfl, by omega, .inl rfl⟩
  obtain ⟨r5, e5, l5, h | ⟨p5, s5⟩⟩ := szTrialS_sm a.Trials r4 q5.1 p4 (by omega)
  · subst h; exact ⟨-1, by simp only [e1, e2, e3, e4, e5, decide_eq_false (show ¬ r1 < 0 by omega), decide_eq_false (show ¬ r2 < 0 by omega), decide_eq_false (show ¬ r3 < 0 by omega), decide_eq_false (show ¬ r4 < 0 by omega), Option.bind_some, cond_false]; rfl, by omega, .inl rfl⟩
  obtain ⟨r6, e6, l6, h | ⟨p6, s6⟩⟩ := szHandS_sm a.Chain r5 q6.1 p5 (by omega)
  · subst h; exact ⟨-1, by simp only [e1, e2, e3, e4, e5, e6, decide_eq_false (show ¬ r1 < 0 by omega), decide_eq_false (show ¬ r2 < 0 by omega), decide_eq_false (show ¬ r3 < 0 by omega), decide_eq_false (show ¬ r4 < 0 by omega), decide_eq_false (show ¬ r5 < 0 by omega), Option.bind_some, cond_false]; rfl, by omega, .inl rfl⟩
  obtain ⟨r7, e7, l7, h | ⟨p7, s7⟩⟩ := szEntryS_sm a.Book r6 q7.1 p6 (by omega)
  · subst h; exact ⟨-1, by simp only [e1, e2, e3, e4, e5, e6, e7, decide_eq_false (show ¬ r1 < 0 by omega), decide_eq_false (show ¬ r2 < 0 by omega), decide_eq_false (show ¬ r3 < 0 by omega), decide_eq_false (show ¬ r4 < 0 by omega), decide_eq_false (show ¬ r5 < 0 by omega), decide_eq_false (show ¬ r6 < 0 by omega), Option.bind_some, cond_false]; rfl, by omega, .inl rfl⟩
  exact ⟨r7, by simp only [e1, e2, e3, e4, e5, e6, e7, decide_eq_false (show ¬ r1 < 0 by omega), decide_eq_false (show ¬ r2 < 0 by omega), decide_eq_false (show ¬ r3 < 0 by omega), decide_eq_false (show ¬ r4 < 0 by omega), decide_eq_false (show ¬ r5 < 0 by omega), decide_eq_false (show ¬ r6 < 0 by omega), decide_eq_false (show ¬ r7 < 0 by omega), Option.bind_some, cond_false], by omega, .inr ⟨p7, ⟨s1, s2, s3, s4, s5, s6, s7⟩⟩⟩
theorem toSecret_id (a : Secret) (h : sm_Secret a) : laws_toSecret a = some a := by
  unfold sm_Secret at h
  have s1 := h
  first | (simp only [laws_toSecret, toMarkS_id _ s1, Option.bind_some]; done) | (simp only [laws_toSecret, toMarkS_id _ s1, Option.bind_some]; rfl)
theorem toSecretS_id (a : List Secret) (h : smL sm_Secret a) : laws_toSecretS a = some a := by
  have hl := h.1
  have hr := run_fill a (fun x => x) (⟨0, [], 0⟩ : Secret) (step := laws_toSecretS_l3 a) (by omega) (fun i out hi ho => by
    simp only [laws_toSecretS_l3, lt_ln hi, inb_n hi, gt_n hi, toSecret_id _ (h.2 _ (List.getElem_mem hi)), inb_n (show i < out.length by omega), Int.toNat_natCast, w64_n (show (i : Int) < 9223372036854775807 by omega), cond_true, need_true, Option.bind_some])
    (fun out => by simp only [laws_toSecretS_l3, ge_ln (Nat.le_refl _), cond_false])
  unfold laws_toSecretS
  rw [ln_eq, mkB_ok hl (by omega), Int.toNat_natCast]
  simp only [need_true, hr, List.map_id', Option.bind_some]
theorem toHouse_id (a : House) (h : sm_House a) : laws_toHouse a = some a := by
  unfold sm_House at h
  obtain ⟨s1, s2, s3, s4, s5, s6, s7⟩ := h
  first | (simp only [laws_toHouse, toFindS_id _ s1, toSecretS_id _ s2, toSlotS_id _ s3, toClaimS_id _ s4, toTrialS_id _ s5, toHandS_id _ s6, toEntryS_id _ s7, Option.bind_some]; done) | (simp only [laws_toHouse, toFindS_id _ s1, toSecretS_id _ s2, toSlotS_id _ s3, toClaimS_id _ s4, toTrialS_id _ s5, toHandS_id _ s6, toEntryS_id _ s7, Option.bind_some]; rfl)
theorem eqSecret_refl (a : Secret) (h : sm_Secret a) : laws_eqSecret a a = some true := by
  unfold sm_Secret at h
  have s1 := h
  simp [laws_eqSecret, eqMarkS_refl _ s1]
theorem eqSecretS_refl (a : List Secret) (h : smL sm_Secret a) : laws_eqSecretS a a = some true := by
  have hl := h.1
  have hr := run_loop a (step := laws_eqSecretS_l4 a a) (fun i (_ : Unit) => (i : Int)) (fun _ _ _ => some (.inl ())) (fun _ => some (.brk ())) ()
    (fun i s hi => by simp only [laws_eqSecretS_l4, lt_ln hi, inb_n hi, gt_n hi, eqSecret_refl _ (h.2 _ (List.getElem_mem hi)), w64_n (show (i : Int) < 9223372036854775807 by omega), cond_true, cond_false, need_true, Option.bind_some, Bool.not_true, Option.map_some, Sum.map_inl, decide_true])
    (fun s => by simp only [laws_eqSecretS_l4, ge_ln (Nat.le_refl _), cond_false, Option.map_some])
  rw [loopI_fold (g := fun _ _ => ()) a 0 () (fun _ _ _ _ => rfl)] at hr
  unfold laws_eqSecretS
  simp only [decide_true, Bool.not_true, cond_false]
  rw [show ((0 : Int)) = ((0 : Nat) : Int) from rfl, hr]
  rfl
theorem eqHouse_refl (a : House) (h : sm_House a) : laws_eqHouse a a = some true := by
  unfold sm_House at h
  obtain ⟨s1, s2, s3, s4, s5, s6, s7⟩ := h
  simp [laws_eqHouse, eqFindS_refl _ s1, eqSecretS_refl _ s2, eqSlotS_refl _ s3, eqClaimS_refl _ s4, eqTrialS_refl _ s5, eqHandS_refl _ s6, eqEntryS_refl _ s7]
end Go.Proofs.YtcdffihcfeajfaaGreat
