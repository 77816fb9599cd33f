/- The laws' own helpers, plainly: a copy is what it copies, and is equal to itself. No condition. -/
import Derived.Test.YtcdffihcfeajfaaGreatFn
import Derived.Test.YtcdffihcfeajfaaGreatPl
namespace Go.Proofs.YtcdffihcfeajfaaGreat
open Go
set_option linter.unusedVariables false
set_option linter.unusedSimpArgs false
set_option linter.defProp false
set_option maxRecDepth 100000
theorem sz_small {n : Nat} (h0 : (n : Int) ≤ 9223372036854775807) (h : decide (w64 (1048576 - (n : Int)) < 0) = false) : n ≤ 1048576 := by
  have := of_decide_eq_false h
  rw [w64_in (by omega) (by omega)] at this; omega
theorem mkB_ok {n b : Nat} (h : n ≤ 1048576) (hb : b ≤ 1024) : mkB (n : Int) b = true := by
  unfold mkB
  have h1 : n * b ≤ 1048576 * 1024 := Nat.mul_le_mul h hb
  have h2 := Int.ofNat_le.2 h1
  rw [Int.natCast_mul] at h2
  have h3 : (n : Int) * (b : Int) ≤ 140737488355328 := by omega
  simp only [h3, Int.natCast_nonneg, decide_true, Bool.and_self]
theorem rm_ok {n b : Nat} (h : n ≤ 2000000) (hb : b ≤ 1024) : rm n b = true := by
  unfold rm
  have h1 : n * b ≤ 2000000 * 1024 := Nat.mul_le_mul h hb
  have h3 : n * b ≤ 140737488355328 := by omega
  simp only [h3, decide_true]
theorem toSlot_id (a : Slot) : laws_toSlot a = some a := by first | rfl | (simp only [laws_toSlot, Option.bind_some]; done) | (simp only [laws_toSlot, Option.bind_some]; rfl)
theorem toSlotS_id (a : List Slot) (h : a.length ≤ 1048576) : laws_toSlotS a = some a := by
  have hr := run_fill a (fun x => x) (⟨0, 0, 0⟩ : Slot) (step := laws_toSlotS_l3 a) (by omega) (fun i out hi ho => by
    simp only [laws_toSlotS_l3, lt_ln hi, inb_n hi, gt_n hi, toSlot_id, inb_n (show i < out.length by omega), Int.toNat_natCast, w64_n (show (i : Int) < 9223372036854775807 by omega), cond_true, need_true, Option.bind_some])
    (fun out => by simp only [laws_toSlotS_l3, ge_ln (Nat.le_refl _), cond_false])
  unfold laws_toSlotS
  rw [ln_eq, mkB_ok h (by omega), Int.toNat_natCast]
  simp only [need_true, hr, List.map_id', Option.bind_some]
theorem eqThing_refl (a : Thing) : laws_eqThing a a = some true := by simp [laws_eqThing]
theorem eqFind_refl (a : Find) : laws_eqFind a a = some true := by simp [laws_eqFind, eqThing_refl]
theorem eqFindS_refl (a : List Find) (h : a.length ≤ 1048576) : laws_eqFindS a a = some true := by
  have hr := run_loop a (step := laws_eqFindS_l4 a a) (fun i (_ : Unit) => (i : Int)) (fun _ _ _ => some (.inl ())) (fun _ => some (.brk ())) ()
    (fun i s hi => by simp only [laws_eqFindS_l4, lt_ln hi, inb_n hi, gt_n hi, eqFind_refl, w64_n (show (i : Int) < 9223372036854775807 by omega), cond_true, cond_false, need_true, Option.bind_some, Bool.not_true, Option.map_some, Sum.map_inl, decide_true])
    (fun s => by simp only [laws_eqFindS_l4, ge_ln (Nat.le_refl _), cond_false, Option.map_some])
  rw [loopI_fold (g := fun _ _ => ()) a 0 () (fun _ _ _ _ => rfl)] at hr
  unfold laws_eqFindS
  simp only [decide_true, Bool.not_true, cond_false]
  rw [show ((0 : Int)) = ((0 : Nat) : Int) from rfl, hr]
  rfl
theorem eqMark_refl (a : Mark) : laws_eqMark a a = some true := by simp [laws_eqMark]
theorem eqMarkS_refl (a : List Mark) (h : a.length ≤ 1048576) : laws_eqMarkS a a = some true := by
  have hr := run_loop a (step := laws_eqMarkS_l4 a a) (fun i (_ : Unit) => (i : Int)) (fun _ _ _ => some (.inl ())) (fun _ => some (.brk ())) ()
    (fun i s hi => by simp only [laws_eqMarkS_l4, lt_ln hi, inb_n hi, gt_n hi, eqMark_refl, w64_n (show (i : Int) < 9223372036854775807 by omega), cond_true, cond_false, need_true, Option.bind_some, Bool.not_true, Option.map_some, Sum.map_inl, decide_true])
    (fun s => by simp only [laws_eqMarkS_l4, ge_ln (Nat.le_refl _), cond_false, Option.map_some])
  rw [loopI_fold (g := fun _ _ => ()) a 0 () (fun _ _ _ _ => rfl)] at hr
  unfold laws_eqMarkS
  simp only [decide_true, Bool.not_true, cond_false]
  rw [show ((0 : Int)) = ((0 : Nat) : Int) from rfl, hr]
  rfl
theorem eqSlot_refl (a : Slot) : laws_eqSlot a a = some true := by simp [laws_eqSlot]
theorem eqSlotS_refl (a : List Slot) (h : a.length ≤ 1048576) : laws_eqSlotS a a = some true := by
  have hr := run_loop a (step := laws_eqSlotS_l4 a a) (fun i (_ : Unit) => (i : Int)) (fun _ _ _ => some (.inl ())) (fun _ => some (.brk ())) ()
    (fun i s hi => by simp only [laws_eqSlotS_l4, lt_ln hi, inb_n hi, gt_n hi, eqSlot_refl, w64_n (show (i : Int) < 9223372036854775807 by omega), cond_true, cond_false, need_true, Option.bind_some, Bool.not_true, Option.map_some, Sum.map_inl, decide_true])
    (fun s => by simp only [laws_eqSlotS_l4, ge_ln (Nat.le_refl _), cond_false, Option.map_some])
  rw [loopI_fold (g := fun _ _ => ()) a 0 () (fun _ _ _ _ => rfl)] at hr
  unfold laws_eqSlotS
  simp only [decide_true, Bool.not_true, cond_false]
  rw [show ((0 : Int)) = ((0 : Nat) : Int) from rfl, hr]
  rfl
theorem eqClaim_refl (a : Claim) : laws_eqClaim a a = some true := by simp [laws_eqClaim]
theorem eqClaimS_refl (a : List Claim) (h : a.length ≤ 1048576) : laws_eqClaimS a a = some true := by
  have hr := run_loop a (step := laws_eqClaimS_l4 a a) (fun i (_ : Unit) => (i : Int)) (fun _ _ _ => some (.inl ())) (fun _ => some (.brk ())) ()
    (fun i s hi => by simp only [laws_eqClaimS_l4, lt_ln hi, inb_n hi, gt_n hi, eqClaim_refl, w64_n (show (i : Int) < 9223372036854775807 by omega), cond_true, cond_false, need_true, Option.bind_some, Bool.not_true, Option.map_some, Sum.map_inl, decide_true])
    (fun s => by simp only [laws_eqClaimS_l4, ge_ln (Nat.le_refl _), cond_false, Option.map_some])
  rw [loopI_fold (g := fun _ _ => ()) a 0 () (fun _ _ _ _ => rfl)] at hr
  unfold laws_eqClaimS
  simp only [decide_true, Bool.not_true, cond_false]
  rw [show ((0 : Int)) = ((0 : Nat) : Int) from rfl, hr]
  rfl
theorem eqTrial_refl (a : Trial) : laws_eqTrial a a = some true := by simp [laws_eqTrial]
theorem eqTrialS_refl (a : List Trial) (h : a.length ≤ 1048576) : laws_eqTrialS a a = some true := by
  have hr := run_loop a (step := laws_eqTrialS_l4 a a) (fun i (_ : Unit) => (i : Int)) (fun _ _ _ => some (.inl ())) (fun _ => some (.brk ())) ()
    (fun i s hi => by simp only [laws_eqTrialS_l4, lt_ln hi, inb_n hi, gt_n hi, eqTrial_refl, w64_n (show (i : Int) < 9223372036854775807 by omega), cond_true, cond_false, need_true, Option.bind_some, Bool.not_true, Option.map_some, Sum.map_inl, decide_true])
    (fun s => by simp only [laws_eqTrialS_l4, ge_ln (Nat.le_refl _), cond_false, Option.map_some])
  rw [loopI_fold (g := fun _ _ => ()) a 0 () (fun _ _ _ _ => rfl)] at hr
  unfold laws_eqTrialS
  simp only [decide_true, Bool.not_true, cond_false]
  rw [show ((0 : Int)) = ((0 : Nat) : Int) from rfl, hr]
  rfl
theorem eqHand_refl (a : Hand) : laws_eqHand a a = some true := by simp [laws_eqHand]
theorem eqHandS_refl (a : List Hand) (h : a.length ≤ 1048576) : laws_eqHandS a a = some true := by
  have hr := run_loop a (step := laws_eqHandS_l4 a a) (fun i (_ : Unit) => (i : Int)) (fun _ _ _ => some (.inl ())) (fun _ => some (.brk ())) ()
    (fun i s hi => by simp only [laws_eqHandS_l4, lt_ln hi, inb_n hi, gt_n hi, eqHand_refl, w64_n (show (i : Int) < 9223372036854775807 by omega), cond_true, cond_false, need_true, Option.bind_some, Bool.not_true, Option.map_some, Sum.map_inl, decide_true])
    (fun s => by simp only [laws_eqHandS_l4, ge_ln (Nat.le_refl _), cond_false, Option.map_some])
  rw [loopI_fold (g := fun _ _ => ()) a 0 () (fun _ _ _ _ => rfl)] at hr
  unfold laws_eqHandS
  simp only [decide_true, Bool.not_true, cond_false]
  rw [show ((0 : Int)) = ((0 : Nat) : Int) from rfl, hr]
  rfl
theorem eqEntry_refl (a : Entry) : laws_eqEntry a a = some true := by simp [laws_eqEntry]
theorem eqEntryS_refl (a : List Entry) (h : a.length ≤ 1048576) : laws_eqEntryS a a = some true := by
  have hr := run_loop a (step := laws_eqEntryS_l4 a a) (fun i (_ : Unit) => (i : Int)) (fun _ _ _ => some (.inl ())) (fun _ => some (.brk ())) ()
    (fun i s hi => by simp only [laws_eqEntryS_l4, lt_ln hi, inb_n hi, gt_n hi, eqEntry_refl, w64_n (show (i : Int) < 9223372036854775807 by omega), cond_true, cond_false, need_true, Option.bind_some, Bool.not_true, Option.map_some, Sum.map_inl, decide_true])
    (fun s => by simp only [laws_eqEntryS_l4, ge_ln (Nat.le_refl _), cond_false, Option.map_some])
  rw [loopI_fold (g := fun _ _ => ()) a 0 () (fun _ _ _ _ => rfl)] at hr
  unfold laws_eqEntryS
  simp only [decide_true, Bool.not_true, cond_false]
  rw [show ((0 : Int)) = ((0 : Nat) : Int) from rfl, hr]
  rfl
/-- Small: what the laws' own budget lets through. -/
def smL {α : Type} (ok : α → Prop) (l : List α) : Prop := l.length ≤ 1048576 ∧ ∀ x ∈ l, ok x
theorem sz_flat {n : Nat} {left : Int} (hn : (n : Int) ≤ 9223372036854775807) (h0 : 0 ≤ left) (h1 : left ≤ 1048576) :
    ∃ r, (bif (decide (w64 (left - (n : Int)) < 0)) then some (-1) else some (w64 (left - (n : Int)))) = some r ∧ r ≤ left ∧ (r = -1 ∨ (0 ≤ r ∧ n ≤ 1048576)) := by
  rw [w64_in (by omega) (by omega)]
  by_cases h : left - (n : Int) < 0
  · exact ⟨-1, by rw [decide_eq_true h]; rfl, by omega, .inl rfl⟩
  · exact ⟨left - n, by rw [decide_eq_false h]; rfl, by omega, .inr ⟨by omega, by omega⟩⟩
theorem sz_run {α : Type} {l : List α} {sm : α → Prop} {sz : α → Int → Option Int} {step : (Int × Int) → Option ((Int × Int) ⊕ (Fl Int Int))}
    (hsz : ∀ x ∈ l, ∀ left, 0 ≤ left → left ≤ 1048576 → ∃ r, sz x left = some r ∧ r ≤ left ∧ (r = -1 ∨ (0 ≤ r ∧ sm x)))
    (h1 : ∀ (i : Nat) (left : Int) (h : i < l.length), step (left, (i : Int)) = (sz l[i] left).bind fun r => (bif (decide (r < 0)) then some (.inr (.ret (-1))) else some (.inl (r, ((i + 1 : Nat) : Int)))))
    (h2 : ∀ left, step (left, (l.length : Int)) = some (.inr (.brk left))) :
    ∀ (m i : Nat) (left : Int), i + m = l.length → 0 ≤ left → left ≤ 1048576 → ∃ c, run step (left, (i : Int)) = some c ∧ (c = .ret (-1) ∨ ∃ r, c = .brk r ∧ 0 ≤ r ∧ r ≤ left ∧ ∀ x ∈ l.drop i, sm x) := by
  intro m
  induction m with
  | zero =>
    intro i left hi g0 g1
    have : i = l.length := by omega
    subst this
    exact ⟨.brk left, by rw [run_eq, h2]; rfl, .inr ⟨left, rfl, g0, Int.le_refl _, by simp⟩⟩
  | succ m ih =>
    intro i left hi g0 g1
    have hlt : i < l.length := by omega
    obtain ⟨r, e, hr, h | ⟨h, hs⟩⟩ := hsz l[i] (List.getElem_mem hlt) left g0 g1
    · subst h
      exact ⟨.ret (-1), by rw [run_eq, h1 i left hlt, e]; rfl, .inl rfl⟩
    · obtain ⟨c, e2, h2⟩ := ih (i + 1) r (by omega) h (by omega)
      have hd : decide (r < 0) = false := decide_eq_false (by omega)
      refine ⟨c, by rw [run_eq, h1 i left hlt, e]; simp only [Option.bind_some, hd, cond_false]; exact e2, ?_⟩
      rcases h2 with h2 | ⟨r', h2, h3, h4, h5⟩
      · exact .inl h2
      · refine .inr ⟨r', h2, h3, by omega, fun x hx => ?_⟩
        rw [List.drop_eq_getElem_cons hlt] at hx
        rcases List.mem_cons.1 hx with rfl | hx
        · exact hs
        · exact h5 x hx
theorem szSlotS_sm (a : List Slot) (left : Int) (ha : a.length ≤ 9223372036854775807) (h0 : 0 ≤ left) (h1 : left ≤ 1048576) : ∃ r, laws_szSlotS a left = some r ∧ r ≤ left ∧ (r = -1 ∨ (0 ≤ r ∧ a.length ≤ 1048576)) := by
  unfold laws_szSlotS; rw [ln_eq]; exact sz_flat (by omega) h0 h1
def sm_Secret (x : Secret) : Prop := x.Marks.length ≤ 1048576
theorem eqSecret_refl (a : Secret) (h : sm_Secret a) : laws_eqSecret a a = some true := by
  unfold sm_Secret at h
  have s1 := h
  simp [laws_eqSecret, eqMarkS_refl _ s1]
theorem eqSecretS_refl (a : List Secret) (h : smL sm_Secret a) : laws_eqSecretS a a = some true := by
  have hl := h.1
  have hr := run_loop a (step := laws_eqSecretS_l4 a a) (fun i (_ : Unit) => (i : Int)) (fun _ _ _ => some (.inl ())) (fun _ => some (.brk ())) ()
    (fun i s hi => by simp only [laws_eqSecretS_l4, lt_ln hi, inb_n hi, gt_n hi, eqSecret_refl _ (h.2 _ (List.getElem_mem hi)), w64_n (show (i : Int) < 9223372036854775807 by omega), cond_true, cond_false, need_true, Option.bind_some, Bool.not_true, Option.map_some, Sum.map_inl, decide_true])
    (fun s => by simp only [laws_eqSecretS_l4, ge_ln (Nat.le_refl _), cond_false, Option.map_some])
  rw [loopI_fold (g := fun _ _ => ()) a 0 () (fun _ _ _ _ => rfl)] at hr
  unfold laws_eqSecretS
  simp only [decide_true, Bool.not_true, cond_false]
  rw [show ((0 : Int)) = ((0 : Nat) : Int) from rfl, hr]
  rfl
def sm_House (x : House) : Prop := x.Finds.length ≤ 1048576 ∧ smL sm_Secret x.Secrets ∧ x.Slots.length ≤ 1048576 ∧ x.Claims.length ≤ 1048576 ∧ x.Trials.length ≤ 1048576 ∧ x.Chain.length ≤ 1048576 ∧ x.Book.length ≤ 1048576
theorem eqHouse_refl (a : House) (h : sm_House a) : laws_eqHouse a a = some true := by
  unfold sm_House at h
  obtain ⟨s1, s2, s3, s4, s5, s6, s7⟩ := h
  simp [laws_eqHouse, eqFindS_refl _ s1, eqSecretS_refl _ s2, eqSlotS_refl _ s3, eqClaimS_refl _ s4, eqTrialS_refl _ s5, eqHandS_refl _ s6, eqEntryS_refl _ s7]
end Go.Proofs.YtcdffihcfeajfaaGreat
