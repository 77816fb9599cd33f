import Derived.Test.YtcdffihcfeajfaaGreatFn
import Derived.Test.YtcdffihcfeajfaaGreatPyMk0
namespace Go.Proofs.YtcdffihcfeajfaaGreat
open Go
set_option maxHeartbeats 4000000
set_option linter.unusedVariables false
set_option linter.unusedSimpArgs false
set_option linter.defProp false
set_option maxRecDepth 100000
def QrT (x : Find) : Prop := True
theorem Qw6 (a : List Find) (k : Int) (h : a.length ≤ 2097152) (hP : ∀ x ∈ a, QrT x) (h0 : 0 ≤ k) (hk : k ≤ 1152921504606846976) : ∃ a' k', QbO a k = some (a', k') ∧ QbB a' k = some k' ∧ k ≤ k' ∧ k' ≤ k + 16777216 := by
 have hW : ((a.length : Nat) : Int) * 8 ≤ 2097152 * 8 := few (by omega) (by omega)
 obtain ⟨a', k', e1, e2, e3, e4⟩ := Qek (sm := X8) (sh := fun a => Jn a) (W := 8) (B := 2305843009213693952) (M := 2097152) (P := QrT) (by omega) (fun a k i hi hM hx h0 h1 => by
  refine ⟨(⟨⟨k, k + 1, k + 1 + 1, k + 1 + 1 + 1, k + 1 + 1 + 1 + 1⟩, k + 1 + 1 + 1 + 1 + 1, k + 1 + 1 + 1 + 1 + 1 + 1, k + 1 + 1 + 1 + 1 + 1 + 1 + 1⟩ : Find), k + 1 + 1 + 1 + 1 + 1 + 1 + 1 + 1, ?_, by omega, by omega, fun b hb hy => ?_⟩
  ·simp (disch := omega) only [X8, Qp hi, Qd hi, Qn hi, Int.toNat_natCast, Ve, cond_true, cond_false, Qa, Option.bind_some, Int.natCast_succ]
  ·simp (disch := omega) only [Jn, Qp hb, Qd hb, Qn hb, hy, Ve, eq_self, decide_true, Bool.not_true, cond_true, cond_false, Qa, Option.bind_some, Int.natCast_succ]
  )
  (fun a k => by simp only [X8, Qu (Nat.le_refl _), cond_false])
  (fun a k => by simp only [Jn, Qu (Nat.le_refl _), cond_false]) a k h hP h0 (by omega)
 exact ⟨a', k', by unfold QbO; rw [e1]; rfl, by unfold QbB; rw [e2]; rfl, e3, by omega⟩
def Qsj (x : Mark) : Prop := True
theorem Qrx (a : List Mark) (k : Int) (h : a.length ≤ 2097152) (hP : ∀ x ∈ a, Qsj x) (h0 : 0 ≤ k) (hk : k ≤ 1152921504606846976) : ∃ a' k', Qaq a k = some (a', k') ∧ QbA a' k = some k' ∧ k ≤ k' ∧ k' ≤ k + 4194304 := by
 have hW : ((a.length : Nat) : Int) * 2 ≤ 2097152 * 2 := few (by omega) (by omega)
 obtain ⟨a', k', e1, e2, e3, e4⟩ := Qek (sm := Ja) (sh := fun a => Jj a) (W := 2) (B := 2305843009213693952) (M := 2097152) (P := Qsj) (by omega) (fun a k i hi hM hx h0 h1 => by
  refine ⟨(⟨k, k + 1⟩ : Mark), k + 1 + 1, ?_, by omega, by omega, fun b hb hy => ?_⟩
  ·simp (disch := omega) only [Ja, Qp hi, Qd hi, Qn hi, Int.toNat_natCast, Ve, cond_true, cond_false, Qa, Option.bind_some, Int.natCast_succ]
  ·simp (disch := omega) only [Jj, Qp hb, Qd hb, Qn hb, hy, Ve, eq_self, decide_true, Bool.not_true, cond_true, cond_false, Qa, Option.bind_some, Int.natCast_succ]
  )
  (fun a k => by simp only [Ja, Qu (Nat.le_refl _), cond_false])
  (fun a k => by simp only [Jj, Qu (Nat.le_refl _), cond_false]) a k h hP h0 (by omega)
 exact ⟨a', k', by unfold Qaq; rw [e1]; rfl, by unfold QbA; rw [e2]; rfl, e3, by omega⟩
def Qgk (x : Secret) : Prop := x.Marks.length ≤ 2097152
theorem QsW (a : List Secret) (k : Int) (h : a.length ≤ 2097152) (hP : ∀ x ∈ a, Qgk x) (h0 : 0 ≤ k) (hk : k ≤ 288230376151711744) : ∃ a' k', Qar a k = some (a', k') ∧ Qad a' k = some k' ∧ k ≤ k' ∧ k' ≤ k + 8796097216512 := by
 have hW : ((a.length : Nat) : Int) * 4194306 ≤ 2097152 * 4194306 := few (by omega) (by omega)
 obtain ⟨a', k', e1, e2, e3, e4⟩ := Qek (sm := Xv) (sh := fun a => Xs a) (W := 4194306) (B := 576460752303423488) (M := 2097152) (P := Qgk) (by omega) (fun a k i hi hM hx h0 h1 => by
  have l1 : _ := hx
  obtain ⟨n1, k1, f1, g1, u1, v1⟩ := Qrx (a[i]).Marks (k + 1) l1 (fun y hy => trivial) (by omega) (by omega)
  refine ⟨(⟨k, n1, k1⟩ : Secret), k1 + 1, ?_, by omega, by omega, fun b hb hy => ?_⟩
  ·simp (disch := omega) only [Xv, Qp hi, Qd hi, Qn hi, Int.toNat_natCast, Ve, cond_true, cond_false, Qa, Option.bind_some, Int.natCast_succ, f1]
  ·simp (disch := omega) only [Xs, Qp hb, Qd hb, Qn hb, hy, Ve, eq_self, decide_true, Bool.not_true, cond_true, cond_false, Qa, Option.bind_some, Int.natCast_succ, g1, show decide (k1 < 0) = false from decide_eq_false (by omega)]
  )
  (fun a k => by simp only [Xv, Qu (Nat.le_refl _), cond_false])
  (fun a k => by simp only [Xs, Qu (Nat.le_refl _), cond_false]) a k h hP h0 (by omega)
 exact ⟨a', k', by unfold Qar; rw [e1]; rfl, by unfold Qad; rw [e2]; rfl, e3, by omega⟩
def QsS (x : Slot) : Prop := True
theorem Qyv (a : List Slot) (k : Int) (h : a.length ≤ 2097152) (hP : ∀ x ∈ a, QsS x) (h0 : 0 ≤ k) (hk : k ≤ 1152921504606846976) : ∃ a' k', Qbs a k = some (a', k') ∧ QbP a' k = some k' ∧ k ≤ k' ∧ k' ≤ k + 6291456 := by
 have hW : ((a.length : Nat) : Int) * 3 ≤ 2097152 * 3 := few (by omega) (by omega)
 obtain ⟨a', k', e1, e2, e3, e4⟩ := Qek (sm := Jd) (sh := fun a => Jc a) (W := 3) (B := 2305843009213693952) (M := 2097152) (P := QsS) (by omega) (fun a k i hi hM hx h0 h1 => by
  refine ⟨(⟨k, k + 1, k + 1 + 1⟩ : Slot), k + 1 + 1 + 1, ?_, by omega, by omega, fun b hb hy => ?_⟩
  ·simp (disch := omega) only [Jd, Qp hi, Qd hi, Qn hi, Int.toNat_natCast, Ve, cond_true, cond_false, Qa, Option.bind_some, Int.natCast_succ]
  ·simp (disch := omega) only [Jc, Qp hb, Qd hb, Qn hb, hy, Ve, eq_self, decide_true, Bool.not_true, cond_true, cond_false, Qa, Option.bind_some, Int.natCast_succ]
  )
  (fun a k => by simp only [Jd, Qu (Nat.le_refl _), cond_false])
  (fun a k => by simp only [Jc, Qu (Nat.le_refl _), cond_false]) a k h hP h0 (by omega)
 exact ⟨a', k', by unfold Qbs; rw [e1]; rfl, by unfold QbP; rw [e2]; rfl, e3, by omega⟩
def Qp1 (x : Claim) : Prop := True
theorem QvC (a : List Claim) (k : Int) (h : a.length ≤ 2097152) (hP : ∀ x ∈ a, Qp1 x) (h0 : 0 ≤ k) (hk : k ≤ 1152921504606846976) : ∃ a' k', QaO a k = some (a', k') ∧ QaR a' k = some k' ∧ k ≤ k' ∧ k' ≤ k + 10485760 := by
 have hW : ((a.length : Nat) : Int) * 5 ≤ 2097152 * 5 := few (by omega) (by omega)
 obtain ⟨a', k', e1, e2, e3, e4⟩ := Qek (sm := XQ) (sh := fun a => XH a) (W := 5) (B := 2305843009213693952) (M := 2097152) (P := Qp1) (by omega) (fun a k i hi hM hx h0 h1 => by
  refine ⟨(⟨k, k + 1, k + 1 + 1, k + 1 + 1 + 1, k + 1 + 1 + 1 + 1⟩ : Claim), k + 1 + 1 + 1 + 1 + 1, ?_, by omega, by omega, fun b hb hy => ?_⟩
  ·simp (disch := omega) only [XQ, Qp hi, Qd hi, Qn hi, Int.toNat_natCast, Ve, cond_true, cond_false, Qa, Option.bind_some, Int.natCast_succ]
  ·simp (disch := omega) only [XH, Qp hb, Qd hb, Qn hb, hy, Ve, eq_self, decide_true, Bool.not_true, cond_true, cond_false, Qa, Option.bind_some, Int.natCast_succ]
  )
  (fun a k => by simp only [XQ, Qu (Nat.le_refl _), cond_false])
  (fun a k => by simp only [XH, Qu (Nat.le_refl _), cond_false]) a k h hP h0 (by omega)
 exact ⟨a', k', by unfold QaO; rw [e1]; rfl, by unfold QaR; rw [e2]; rfl, e3, by omega⟩
def QpV (x : Trial) : Prop := True
theorem Qvg (a : List Trial) (k : Int) (h : a.length ≤ 2097152) (hP : ∀ x ∈ a, QpV x) (h0 : 0 ≤ k) (hk : k ≤ 1152921504606846976) : ∃ a' k', Qa2 a k = some (a', k') ∧ Qa4 a' k = some k' ∧ k ≤ k' ∧ k' ≤ k + 8388608 := by
 have hW : ((a.length : Nat) : Int) * 4 ≤ 2097152 * 4 := few (by omega) (by omega)
 obtain ⟨a', k', e1, e2, e3, e4⟩ := Qek (sm := XJ) (sh := fun a => XC a) (W := 4) (B := 2305843009213693952) (M := 2097152) (P := QpV) (by omega) (fun a k i hi hM hx h0 h1 => by
  refine ⟨(⟨k, k + 1, k + 1 + 1, k + 1 + 1 + 1⟩ : Trial), k + 1 + 1 + 1 + 1, ?_, by omega, by omega, fun b hb hy => ?_⟩
  ·simp (disch := omega) only [XJ, Qp hi, Qd hi, Qn hi, Int.toNat_natCast, Ve, cond_true, cond_false, Qa, Option.bind_some, Int.natCast_succ]
  ·simp (disch := omega) only [XC, Qp hb, Qd hb, Qn hb, hy, Ve, eq_self, decide_true, Bool.not_true, cond_true, cond_false, Qa, Option.bind_some, Int.natCast_succ]
  )
  (fun a k => by simp only [XJ, Qu (Nat.le_refl _), cond_false])
  (fun a k => by simp only [XC, Qu (Nat.le_refl _), cond_false]) a k h hP h0 (by omega)
 exact ⟨a', k', by unfold Qa2; rw [e1]; rfl, by unfold Qa4; rw [e2]; rfl, e3, by omega⟩
def QrA (x : Hand) : Prop := True
theorem Qy8 (a : List Hand) (k : Int) (h : a.length ≤ 2097152) (hP : ∀ x ∈ a, QrA x) (h0 : 0 ≤ k) (hk : k ≤ 1152921504606846976) : ∃ a' k', QbD a k = some (a', k') ∧ Qbt a' k = some k' ∧ k ≤ k' ∧ k' ≤ k + 10485760 := by
 have hW : ((a.length : Nat) : Int) * 5 ≤ 2097152 * 5 := few (by omega) (by omega)
 obtain ⟨a', k', e1, e2, e3, e4⟩ := Qek (sm := Jb) (sh := fun a => X5 a) (W := 5) (B := 2305843009213693952) (M := 2097152) (P := QrA) (by omega) (fun a k i hi hM hx h0 h1 => by
  refine ⟨(⟨k, k + 1, k + 1 + 1, k + 1 + 1 + 1, k + 1 + 1 + 1 + 1⟩ : Hand), k + 1 + 1 + 1 + 1 + 1, ?_, by omega, by omega, fun b hb hy => ?_⟩
  ·simp (disch := omega) only [Jb, Qp hi, Qd hi, Qn hi, Int.toNat_natCast, Ve, cond_true, cond_false, Qa, Option.bind_some, Int.natCast_succ]
  ·simp (disch := omega) only [X5, Qp hb, Qd hb, Qn hb, hy, Ve, eq_self, decide_true, Bool.not_true, cond_true, cond_false, Qa, Option.bind_some, Int.natCast_succ]
  )
  (fun a k => by simp only [Jb, Qu (Nat.le_refl _), cond_false])
  (fun a k => by simp only [X5, Qu (Nat.le_refl _), cond_false]) a k h hP h0 (by omega)
 exact ⟨a', k', by unfold QbD; rw [e1]; rfl, by unfold Qbt; rw [e2]; rfl, e3, by omega⟩
def QpR (x : Entry) : Prop := True
theorem Qv1 (a : List Entry) (k : Int) (h : a.length ≤ 2097152) (hP : ∀ x ∈ a, QpR x) (h0 : 0 ≤ k) (hk : k ≤ 1152921504606846976) : ∃ a' k', Qa7 a k = some (a', k') ∧ QaN a' k = some k' ∧ k ≤ k' ∧ k' ≤ k + 8388608 := by
 have hW : ((a.length : Nat) : Int) * 4 ≤ 2097152 * 4 := few (by omega) (by omega)
 obtain ⟨a', k', e1, e2, e3, e4⟩ := Qek (sm := XF) (sh := fun a => XI a) (W := 4) (B := 2305843009213693952) (M := 2097152) (P := QpR) (by omega) (fun a k i hi hM hx h0 h1 => by
  refine ⟨(⟨k, k + 1, k + 1 + 1, k + 1 + 1 + 1⟩ : Entry), k + 1 + 1 + 1 + 1, ?_, by omega, by omega, fun b hb hy => ?_⟩
  ·simp (disch := omega) only [XF, Qp hi, Qd hi, Qn hi, Int.toNat_natCast, Ve, cond_true, cond_false, Qa, Option.bind_some, Int.natCast_succ]
  ·simp (disch := omega) only [XI, Qp hb, Qd hb, Qn hb, hy, Ve, eq_self, decide_true, Bool.not_true, cond_true, cond_false, Qa, Option.bind_some, Int.natCast_succ]
  )
  (fun a k => by simp only [XF, Qu (Nat.le_refl _), cond_false])
  (fun a k => by simp only [XI, Qu (Nat.le_refl _), cond_false]) a k h hP h0 (by omega)
 exact ⟨a', k', by unfold Qa7; rw [e1]; rfl, by unfold QaN; rw [e2]; rfl, e3, by omega⟩
theorem Qx6 (h : House) (k : Int) (l1 : h.Finds.length ≤ 2097152) (l2 : h.Secrets.length ≤ 2097152) (p2 : ∀ x ∈ h.Secrets, Qgk x) (l3 : h.Slots.length ≤ 2097152) (l4 : h.Claims.length ≤ 2097152) (l5 : h.Trials.length ≤ 2097152) (l6 : h.Chain.length ≤ 2097152) (l7 : h.Book.length ≤ 2097152) (h0 : 0 ≤ k) (hk : k ≤ 1125899906842624) : ∃ h' k', Xj h k = some (h', k') ∧ Zc h' k = some k' ∧ k ≤ k' ∧ k' ≤ k + 8796158033920 := by
 obtain ⟨n1, k1, f1, g1, u1, v1⟩ := Qw6 h.Finds (k) l1 (fun x _ => trivial) (by omega) (by omega)
 obtain ⟨n2, k2, f2, g2, u2, v2⟩ := QsW h.Secrets (k1) l2 (p2) (by omega) (by omega)
 obtain ⟨n3, k3, f3, g3, u3, v3⟩ := Qyv h.Slots (k2) l3 (fun x _ => trivial) (by omega) (by omega)
 obtain ⟨n4, k4, f4, g4, u4, v4⟩ := QvC h.Claims (k3) l4 (fun x _ => trivial) (by omega) (by omega)
 obtain ⟨n5, k5, f5, g5, u5, v5⟩ := Qvg h.Trials (k4) l5 (fun x _ => trivial) (by omega) (by omega)
 obtain ⟨n6, k6, f6, g6, u6, v6⟩ := Qy8 h.Chain (k5) l6 (fun x _ => trivial) (by omega) (by omega)
 obtain ⟨n7, k7, f7, g7, u7, v7⟩ := Qv1 h.Book (k6) l7 (fun x _ => trivial) (by omega) (by omega)
 refine ⟨(⟨h.No, n1, n2, n3, n4, n5, n6, n7, h.Now⟩ : House), k7, ?_, ?_, by omega, by omega⟩
 ·simp only [Xj, f1, f2, f3, f4, f5, f6, f7, Option.bind_some]
 ·simp only [Zc, g1, show decide (k1 < 0) = false from decide_eq_false (by omega), g2, show decide (k2 < 0) = false from decide_eq_false (by omega), g3, show decide (k3 < 0) = false from decide_eq_false (by omega), g4, show decide (k4 < 0) = false from decide_eq_false (by omega), g5, show decide (k5 < 0) = false from decide_eq_false (by omega), g6, show decide (k6 < 0) = false from decide_eq_false (by omega), g7, show decide (k7 < 0) = false from decide_eq_false (by omega), Option.bind_some, cond_false]
def Quh (x : Bid) : Prop := True
theorem QBF (a : List Bid) (k : Int) (h : a.length ≤ 2097152) (hP : ∀ x ∈ a, Quh x) (h0 : 0 ≤ k) (hk : k ≤ 1152921504606846976) : ∃ a' k', Qcw a k = some (a', k') ∧ k ≤ k' ∧ k' ≤ k + 6291456 := by
 have hW : ((a.length : Nat) : Int) * 3 ≤ 2097152 * 3 := few (by omega) (by omega)
 obtain ⟨a', k', e1, e3, e4⟩ := Qvb (sm := JY) (W := 3) (B := 2305843009213693952) (M := 2097152) (P := Quh) (by omega) (fun a k i hi hM hx h0 h1 => by
  refine ⟨(⟨k, k + 1, k + 1 + 1⟩ : Bid), k + 1 + 1 + 1, ?_, by omega, by omega⟩
  ·simp (disch := omega) only [JY, Qp hi, Qd hi, Qn hi, Int.toNat_natCast, Ve, cond_true, cond_false, Qa, Option.bind_some, Int.natCast_succ]
  )
  (fun a k => by simp only [JY, Qu (Nat.le_refl _), cond_false]) a k h hP h0 (by omega)
 exact ⟨a', k', by unfold Qcw; rw [e1]; rfl, e3, by omega⟩
theorem QyU (h : Event) (k : Int) (l1 : h.Marks.length ≤ 2097152) (l2 : h.Bids.length ≤ 2097152) (h0 : 0 ≤ k) (hk : k ≤ 1125899906842624) : ∃ h' k', Qbu h k = some (h', k') ∧ k ≤ k' ∧ k' ≤ k + 10485760 := by
 obtain ⟨n1, k1, f1, u1, v1⟩ := Qrx h.Marks (k) l1 (fun x _ => trivial) (by omega) (by omega)
 obtain ⟨n2, k2, f2, u2, v2⟩ := QBF h.Bids (k1) l2 (fun x _ => trivial) (by omega) (by omega)
 refine ⟨(⟨h.Kind, h.Find, n1, h.Id, h.Who, h.N, n2⟩ : Event), k2, ?_, by omega, by omega⟩
 ·simp only [Qbu, f1, f2, Option.bind_some]
end Go.Proofs.YtcdffihcfeajfaaGreat
