import Derived.Test.YtponohekgnklkaaGreatPz2
namespace Go.Proofs.YtponohekgnklkaaGreat
open Go
set_option linter.unusedVariables false
set_option linter.unusedSimpArgs false
theorem QzN (a : List Find) (hm : a.length ≤ 1048576) : ZV a a = some true := by
 have q : ∀ x : Find, QlI x x = true := fun x => by simp [QlI]
 have h := XF (step := V7 a a (ln a)) (fun i => (i : Int)) (r := .brk ()) a.length (fun i hi => by simp only [V7, Qx hi, Qg hi, Qw hi, q, Bool.not_true, QL (show (i : Int) < 9223372036854775807 by omega), cond_true, cond_false, Qa]) (by simp only [V7, QI (Nat.le_refl _), cond_false])
 unfold ZV
 rw [show run (V7 a a (ln a)) 0 = some (.brk ()) from h, decide_eq_true rfl]; rfl
theorem QwN (a : List Mark) (hm : a.length ≤ 1048576) : ZU a a = some true := by
 have q : ∀ x : Mark, QlK x x = true := fun x => by simp [QlK]
 have h := XF (step := V5 a a (ln a)) (fun i => (i : Int)) (r := .brk ()) a.length (fun i hi => by simp only [V5, Qx hi, Qg hi, Qw hi, q, Bool.not_true, QL (show (i : Int) < 9223372036854775807 by omega), cond_true, cond_false, Qa]) (by simp only [V5, QI (Nat.le_refl _), cond_false])
 unfold ZU
 rw [show run (V5 a a (ln a)) 0 = some (.brk ()) from h, decide_eq_true rfl]; rfl
theorem QzQ (a : List Slot) (hm : a.length ≤ 1048576) : ZP a a = some true := by
 have q : ∀ x : Slot, QlV x x = true := fun x => by simp [QlV]
 have h := XF (step := V3 a a (ln a)) (fun i => (i : Int)) (r := .brk ()) a.length (fun i hi => by simp only [V3, Qx hi, Qg hi, Qw hi, q, Bool.not_true, QL (show (i : Int) < 9223372036854775807 by omega), cond_true, cond_false, Qa]) (by simp only [V3, QI (Nat.le_refl _), cond_false])
 unfold ZP
 rw [show run (V3 a a (ln a)) 0 = some (.brk ()) from h, decide_eq_true rfl]; rfl
theorem Qvt (a : List Claim) (hm : a.length ≤ 1048576) : Zn a a = some true := by
 have q : ∀ x : Claim, QjR x x = true := fun x => by simp [QjR]
 have h := XF (step := VX a a (ln a)) (fun i => (i : Int)) (r := .brk ()) a.length (fun i hi => by simp only [VX, Qx hi, Qg hi, Qw hi, q, Bool.not_true, QL (show (i : Int) < 9223372036854775807 by omega), cond_true, cond_false, Qa]) (by simp only [VX, QI (Nat.le_refl _), cond_false])
 unfold Zn
 rw [show run (VX a a (ln a)) 0 = some (.brk ()) from h, decide_eq_true rfl]; rfl
theorem Qv3 (a : List Trial) (hm : a.length ≤ 1048576) : Zo a a = some true := by
 have q : ∀ x : Trial, QjI x x = true := fun x => by simp [QjI]
 have h := XF (step := VW a a (ln a)) (fun i => (i : Int)) (r := .brk ()) a.length (fun i hi => by simp only [VW, Qx hi, Qg hi, Qw hi, q, Bool.not_true, QL (show (i : Int) < 9223372036854775807 by omega), cond_true, cond_false, Qa]) (by simp only [VW, QI (Nat.le_refl _), cond_false])
 unfold Zo
 rw [show run (VW a a (ln a)) 0 = some (.brk ()) from h, decide_eq_true rfl]; rfl
theorem Qzj (a : List Hand) (hm : a.length ≤ 1048576) : ZN a a = some true := by
 have q : ∀ x : Hand, QlO x x = true := fun x => by simp [QlO]
 have h := XF (step := V8 a a (ln a)) (fun i => (i : Int)) (r := .brk ()) a.length (fun i hi => by simp only [V8, Qx hi, Qg hi, Qw hi, q, Bool.not_true, QL (show (i : Int) < 9223372036854775807 by omega), cond_true, cond_false, Qa]) (by simp only [V8, QI (Nat.le_refl _), cond_false])
 unfold ZN
 rw [show run (V8 a a (ln a)) 0 = some (.brk ()) from h, decide_eq_true rfl]; rfl
theorem Qwj (a : List Entry) (hm : a.length ≤ 1048576) : Zk a a = some true := by
 have q : ∀ x : Entry, QjY x x = true := fun x => by simp [QjY]
 have h := XF (step := VY a a (ln a)) (fun i => (i : Int)) (r := .brk ()) a.length (fun i hi => by simp only [VY, Qx hi, Qg hi, Qw hi, q, Bool.not_true, QL (show (i : Int) < 9223372036854775807 by omega), cond_true, cond_false, Qa]) (by simp only [VY, QI (Nat.le_refl _), cond_false])
 unfold Zk
 rw [show run (VY a a (ln a)) 0 = some (.brk ()) from h, decide_eq_true rfl]; rfl
theorem QrA (a : List Secret) (hm : smL QcL a) : ZZ a a = some true := by
 have q : ∀ x ∈ a, JT x x = some true := fun x hx => by
  unfold JT
  rw [QwN x.Marks (hm.2 x hx), decide_eq_true rfl, decide_eq_true rfl]; rfl
 have hl := hm.1
 have h := XF (step := Qr a a (ln a)) (fun i => (i : Int)) (r := .brk ()) a.length (fun i hi => by simp only [Qr, Qx hi, Qg hi, Qw hi, q _ (List.getElem_mem hi), Bool.not_true, Option.bind_some, QL (show (i : Int) < 9223372036854775807 by omega), cond_true, cond_false, Qa]) (by simp only [Qr, QI (Nat.le_refl _), cond_false])
 unfold ZZ Vg
 rw [show run (Qr a a (ln a)) 0 = some (.brk ()) from h, decide_eq_true rfl]; rfl
theorem QoJ (h : House) (hm : Qh h) : Ze h h = some true := by
 obtain ⟨m1, m2, m3, m4, m5, m6, m7⟩ := hm
 unfold Ze
 rw [QzN _ m1, QrA _ m2, QzQ _ m3, Qvt _ m4, Qv3 _ m5, Qzj _ m6, Qwj _ m7, decide_eq_true rfl, decide_eq_true rfl]; rfl
end Go.Proofs.YtponohekgnklkaaGreat
