import Derived.Test.YtcdffihcfeajfaaGreatFn
import Derived.Test.YtcdffihcfeajfaaGreatPyMk0
namespace Go.Proofs.YtcdffihcfeajfaaGreat
open Go
set_option maxHeartbeats 4000000
set_option linter.unusedVariables false
set_option linter.unusedSimpArgs false
set_option linter.defProp false
set_option maxRecDepth 100000
def QoA (x : Find) : Prop := True
theorem Qu3 (a : List Find) (k : Int) (h : a.length ≤ 2097152) (hP : ∀ x ∈ a, QoA x) (h0 : 0 ≤ k) (hk : k ≤ 1152921504606846976) : ∃ a' k', Qah a k = some (a', k') ∧ Qal a' k = some k' ∧ k ≤ k' ∧ k' ≤ k + 16777216 := by
 have hW : ((a.length : Nat) : Int) * 8 ≤ 2097152 * 8 := few (by omega) (by omega)
 obtain ⟨a', k', e1, e2, e3, e4⟩ := Qcp (sm := Xz) (sh := fun a => XC a) (W := 8) (B := 2305843009213693952) (M := 2097152) (P := QoA) (by omega) (fun a k i hi hM hx h0 h1 => by
  refine ⟨(⟨⟨k, k + 1, k + 1 + 1, k + 1 + 1 + 1, k + 1 + 1 + 1 + 1⟩, k + 1 + 1 + 1 + 1 + 1, k + 1 + 1 + 1 + 1 + 1 + 1, k + 1 + 1 + 1 + 1 + 1 + 1 + 1⟩ : Find), k + 1 + 1 + 1 + 1 + 1 + 1 + 1 + 1, ?_, by omega, by omega, fun b hb hy => ?_⟩
  ·simp (disch := omega) only [Xz, Qu hi, Qh hi, Qz hi, Int.toNat_natCast, Vd, cond_true, cond_false, Qa, Option.bind_some, Int.natCast_succ]
  ·simp (disch := omega) only [XC, Qu hb, Qh hb, Qz hb, hy, Vd, eq_self, decide_true, Bool.not_true, cond_true, cond_false, Qa, Option.bind_some, Int.natCast_succ]
  )
  (fun a k => by simp only [Xz, Qx (Nat.le_refl _), cond_false])
  (fun a k => by simp only [XC, Qx (Nat.le_refl _), cond_false]) a k h hP h0 (by omega)
 exact ⟨a', k', by unfold Qah; rw [e1]; rfl, by unfold Qal; rw [e2]; rfl, e3, by omega⟩
def QpC (x : Mark) : Prop := True
theorem QtS (a : List Mark) (k : Int) (h : a.length ≤ 2097152) (hP : ∀ x ∈ a, QpC x) (h0 : 0 ≤ k) (hk : k ≤ 1152921504606846976) : ∃ a' k', Z9 a k = some (a', k') ∧ Qae a' k = some k' ∧ k ≤ k' ∧ k' ≤ k + 4194304 := by
 have hW : ((a.length : Nat) : Int) * 2 ≤ 2097152 * 2 := few (by omega) (by omega)
 obtain ⟨a', k', e1, e2, e3, e4⟩ := Qcp (sm := Xr) (sh := fun a => XD a) (W := 2) (B := 2305843009213693952) (M := 2097152) (P := QpC) (by omega) (fun a k i hi hM hx h0 h1 => by
  refine ⟨(⟨k, k + 1⟩ : Mark), k + 1 + 1, ?_, by omega, by omega, fun b hb hy => ?_⟩
  ·simp (disch := omega) only [Xr, Qu hi, Qh hi, Qz hi, Int.toNat_natCast, Vd, cond_true, cond_false, Qa, Option.bind_some, Int.natCast_succ]
  ·simp (disch := omega) only [XD, Qu hb, Qh hb, Qz hb, hy, Vd, eq_self, decide_true, Bool.not_true, cond_true, cond_false, Qa, Option.bind_some, Int.natCast_succ]
  )
  (fun a k => by simp only [Xr, Qx (Nat.le_refl _), cond_false])
  (fun a k => by simp only [XD, Qx (Nat.le_refl _), cond_false]) a k h hP h0 (by omega)
 exact ⟨a', k', by unfold Z9; rw [e1]; rfl, by unfold Qae; rw [e2]; rfl, e3, by omega⟩
def Qd3 (x : Secret) : Prop := x.Marks.length ≤ 2097152
theorem QqV (a : List Secret) (k : Int) (h : a.length ≤ 2097152) (hP : ∀ x ∈ a, Qd3 x) (h0 : 0 ≤ k) (hk : k ≤ 288230376151711744) : ∃ a' k', Zd a k = some (a', k') ∧ J5 a' k = some k' ∧ k ≤ k' ∧ k' ≤ k + 8796097216512 := by
 have hW : ((a.length : Nat) : Int) * 4194306 ≤ 2097152 * 4194306 := few (by omega) (by omega)
 obtain ⟨a', k', e1, e2, e3, e4⟩ := Qcp (sm := VO) (sh := fun a => VN a) (W := 4194306) (B := 576460752303423488) (M := 2097152) (P := Qd3) (by omega) (fun a k i hi hM hx h0 h1 => by
  have l1 : _ := hx
  obtain ⟨n1, k1, f1, g1, u1, v1⟩ := QtS (a[i]).Marks (k + 1) l1 (fun y hy => trivial) (by omega) (by omega)
  refine ⟨(⟨k, n1, k1⟩ : Secret), k1 + 1, ?_, by omega, by omega, fun b hb hy => ?_⟩
  ·simp (disch := omega) only [VO, Qu hi, Qh hi, Qz hi, Int.toNat_natCast, Vd, cond_true, cond_false, Qa, Option.bind_some, Int.natCast_succ, f1]
  ·simp (disch := omega) only [VN, Qu hb, Qh hb, Qz hb, hy, Vd, eq_self, decide_true, Bool.not_true, cond_true, cond_false, Qa, Option.bind_some, Int.natCast_succ, g1, show decide (k1 < 0) = false from decide_eq_false (by omega)]
  )
  (fun a k => by simp only [VO, Qx (Nat.le_refl _), cond_false])
  (fun a k => by simp only [VN, Qx (Nat.le_refl _), cond_false]) a k h hP h0 (by omega)
 exact ⟨a', k', by unfold Zd; rw [e1]; rfl, by unfold J5; rw [e2]; rfl, e3, by omega⟩
def QpI (x : Slot) : Prop := True
theorem Qum (a : List Slot) (k : Int) (h : a.length ≤ 2097152) (hP : ∀ x ∈ a, QpI x) (h0 : 0 ≤ k) (hk : k ≤ 1152921504606846976) : ∃ a' k', Qan a k = some (a', k') ∧ Qai a' k = some k' ∧ k ≤ k' ∧ k' ≤ k + 6291456 := by
 have hW : ((a.length : Nat) : Int) * 3 ≤ 2097152 * 3 := few (by omega) (by omega)
 obtain ⟨a', k', e1, e2, e3, e4⟩ := Qcp (sm := XB) (sh := fun a => Xv a) (W := 3) (B := 2305843009213693952) (M := 2097152) (P := QpI) (by omega) (fun a k i hi hM hx h0 h1 => by
  refine ⟨(⟨k, k + 1, k + 1 + 1⟩ : Slot), k + 1 + 1 + 1, ?_, by omega, by omega, fun b hb hy => ?_⟩
  ·simp (disch := omega) only [XB, Qu hi, Qh hi, Qz hi, Int.toNat_natCast, Vd, cond_true, cond_false, Qa, Option.bind_some, Int.natCast_succ]
  ·simp (disch := omega) only [Xv, Qu hb, Qh hb, Qz hb, hy, Vd, eq_self, decide_true, Bool.not_true, cond_true, cond_false, Qa, Option.bind_some, Int.natCast_succ]
  )
  (fun a k => by simp only [XB, Qx (Nat.le_refl _), cond_false])
  (fun a k => by simp only [Xv, Qx (Nat.le_refl _), cond_false]) a k h hP h0 (by omega)
 exact ⟨a', k', by unfold Qan; rw [e1]; rfl, by unfold Qai; rw [e2]; rfl, e3, by omega⟩
def Qmt (x : Claim) : Prop := True
theorem QsK (a : List Claim) (k : Int) (h : a.length ≤ 2097152) (hP : ∀ x ∈ a, Qmt x) (h0 : 0 ≤ k) (hk : k ≤ 1152921504606846976) : ∃ a' k', Zy a k = some (a', k') ∧ ZG a' k = some k' ∧ k ≤ k' ∧ k' ≤ k + 10485760 := by
 have hW : ((a.length : Nat) : Int) * 5 ≤ 2097152 * 5 := few (by omega) (by omega)
 obtain ⟨a', k', e1, e2, e3, e4⟩ := Qcp (sm := VZ) (sh := fun a => V6 a) (W := 5) (B := 2305843009213693952) (M := 2097152) (P := Qmt) (by omega) (fun a k i hi hM hx h0 h1 => by
  refine ⟨(⟨k, k + 1, k + 1 + 1, k + 1 + 1 + 1, k + 1 + 1 + 1 + 1⟩ : Claim), k + 1 + 1 + 1 + 1 + 1, ?_, by omega, by omega, fun b hb hy => ?_⟩
  ·simp (disch := omega) only [VZ, Qu hi, Qh hi, Qz hi, Int.toNat_natCast, Vd, cond_true, cond_false, Qa, Option.bind_some, Int.natCast_succ]
  ·simp (disch := omega) only [V6, Qu hb, Qh hb, Qz hb, hy, Vd, eq_self, decide_true, Bool.not_true, cond_true, cond_false, Qa, Option.bind_some, Int.natCast_succ]
  )
  (fun a k => by simp only [VZ, Qx (Nat.le_refl _), cond_false])
  (fun a k => by simp only [V6, Qx (Nat.le_refl _), cond_false]) a k h hP h0 (by omega)
 exact ⟨a', k', by unfold Zy; rw [e1]; rfl, by unfold ZG; rw [e2]; rfl, e3, by omega⟩
def QmA (x : Trial) : Prop := True
theorem Qr9 (a : List Trial) (k : Int) (h : a.length ≤ 2097152) (hP : ∀ x ∈ a, QmA x) (h0 : 0 ≤ k) (hk : k ≤ 1152921504606846976) : ∃ a' k', ZR a k = some (a', k') ∧ ZE a' k = some k' ∧ k ≤ k' ∧ k' ≤ k + 8388608 := by
 have hW : ((a.length : Nat) : Int) * 4 ≤ 2097152 * 4 := few (by omega) (by omega)
 obtain ⟨a', k', e1, e2, e3, e4⟩ := Qcp (sm := V4) (sh := fun a => V5 a) (W := 4) (B := 2305843009213693952) (M := 2097152) (P := QmA) (by omega) (fun a k i hi hM hx h0 h1 => by
  refine ⟨(⟨k, k + 1, k + 1 + 1, k + 1 + 1 + 1⟩ : Trial), k + 1 + 1 + 1 + 1, ?_, by omega, by omega, fun b hb hy => ?_⟩
  ·simp (disch := omega) only [V4, Qu hi, Qh hi, Qz hi, Int.toNat_natCast, Vd, cond_true, cond_false, Qa, Option.bind_some, Int.natCast_succ]
  ·simp (disch := omega) only [V5, Qu hb, Qh hb, Qz hb, hy, Vd, eq_self, decide_true, Bool.not_true, cond_true, cond_false, Qa, Option.bind_some, Int.natCast_succ]
  )
  (fun a k => by simp only [V4, Qx (Nat.le_refl _), cond_false])
  (fun a k => by simp only [V5, Qx (Nat.le_refl _), cond_false]) a k h hP h0 (by omega)
 exact ⟨a', k', by unfold ZR; rw [e1]; rfl, by unfold ZE; rw [e2]; rfl, e3, by omega⟩
def Qo1 (x : Hand) : Prop := True
theorem Qub (a : List Hand) (k : Int) (h : a.length ≤ 2097152) (hP : ∀ x ∈ a, Qo1 x) (h0 : 0 ≤ k) (hk : k ≤ 1152921504606846976) : ∃ a' k', Qaa a k = some (a', k') ∧ Qam a' k = some k' ∧ k ≤ k' ∧ k' ≤ k + 10485760 := by
 have hW : ((a.length : Nat) : Int) * 5 ≤ 2097152 * 5 := few (by omega) (by omega)
 obtain ⟨a', k', e1, e2, e3, e4⟩ := Qcp (sm := XA) (sh := fun a => Xt a) (W := 5) (B := 2305843009213693952) (M := 2097152) (P := Qo1) (by omega) (fun a k i hi hM hx h0 h1 => by
  refine ⟨(⟨k, k + 1, k + 1 + 1, k + 1 + 1 + 1, k + 1 + 1 + 1 + 1⟩ : Hand), k + 1 + 1 + 1 + 1 + 1, ?_, by omega, by omega, fun b hb hy => ?_⟩
  ·simp (disch := omega) only [XA, Qu hi, Qh hi, Qz hi, Int.toNat_natCast, Vd, cond_true, cond_false, Qa, Option.bind_some, Int.natCast_succ]
  ·simp (disch := omega) only [Xt, Qu hb, Qh hb, Qz hb, hy, Vd, eq_self, decide_true, Bool.not_true, cond_true, cond_false, Qa, Option.bind_some, Int.natCast_succ]
  )
  (fun a k => by simp only [XA, Qx (Nat.le_refl _), cond_false])
  (fun a k => by simp only [Xt, Qx (Nat.le_refl _), cond_false]) a k h hP h0 (by omega)
 exact ⟨a', k', by unfold Qaa; rw [e1]; rfl, by unfold Qam; rw [e2]; rfl, e3, by omega⟩
def QmU (x : Entry) : Prop := True
theorem Qr7 (a : List Entry) (k : Int) (h : a.length ≤ 2097152) (hP : ∀ x ∈ a, QmU x) (h0 : 0 ≤ k) (hk : k ≤ 1152921504606846976) : ∃ a' k', ZO a k = some (a', k') ∧ ZN a' k = some k' ∧ k ≤ k' ∧ k' ≤ k + 8388608 := by
 have hW : ((a.length : Nat) : Int) * 4 ≤ 2097152 * 4 := few (by omega) (by omega)
 obtain ⟨a', k', e1, e2, e3, e4⟩ := Qcp (sm := VU) (sh := fun a => V2 a) (W := 4) (B := 2305843009213693952) (M := 2097152) (P := QmU) (by omega) (fun a k i hi hM hx h0 h1 => by
  refine ⟨(⟨k, k + 1, k + 1 + 1, k + 1 + 1 + 1⟩ : Entry), k + 1 + 1 + 1 + 1, ?_, by omega, by omega, fun b hb hy => ?_⟩
  ·simp (disch := omega) only [VU, Qu hi, Qh hi, Qz hi, Int.toNat_natCast, Vd, cond_true, cond_false, Qa, Option.bind_some, Int.natCast_succ]
  ·simp (disch := omega) only [V2, Qu hb, Qh hb, Qz hb, hy, Vd, eq_self, decide_true, Bool.not_true, cond_true, cond_false, Qa, Option.bind_some, Int.natCast_succ]
  )
  (fun a k => by simp only [VU, Qx (Nat.le_refl _), cond_false])
  (fun a k => by simp only [V2, Qx (Nat.le_refl _), cond_false]) a k h hP h0 (by omega)
 exact ⟨a', k', by unfold ZO; rw [e1]; rfl, by unfold ZN; rw [e2]; rfl, e3, by omega⟩
theorem Quc (h : House) (k : Int) (l1 : h.Finds.length ≤ 2097152) (l2 : h.Secrets.length ≤ 2097152) (p2 : ∀ x ∈ h.Secrets, Qd3 x) (l3 : h.Slots.length ≤ 2097152) (l4 : h.Claims.length ≤ 2097152) (l5 : h.Trials.length ≤ 2097152) (l6 : h.Chain.length ≤ 2097152) (l7 : h.Book.length ≤ 2097152) (h0 : 0 ≤ k) (hk : k ≤ 1000000) : ∃ h' k', VJ h k = some (h', k') ∧ Jh h' k = some k' ∧ k ≤ k' ∧ k' ≤ k + 8796158033920 := by
 obtain ⟨n1, k1, f1, g1, u1, v1⟩ := Qu3 h.Finds (k) l1 (fun x _ => trivial) (by omega) (by omega)
 obtain ⟨n2, k2, f2, g2, u2, v2⟩ := QqV h.Secrets (k1) l2 (p2) (by omega) (by omega)
 obtain ⟨n3, k3, f3, g3, u3, v3⟩ := Qum h.Slots (k2) l3 (fun x _ => trivial) (by omega) (by omega)
 obtain ⟨n4, k4, f4, g4, u4, v4⟩ := QsK h.Claims (k3) l4 (fun x _ => trivial) (by omega) (by omega)
 obtain ⟨n5, k5, f5, g5, u5, v5⟩ := Qr9 h.Trials (k4) l5 (fun x _ => trivial) (by omega) (by omega)
 obtain ⟨n6, k6, f6, g6, u6, v6⟩ := Qub h.Chain (k5) l6 (fun x _ => trivial) (by omega) (by omega)
 obtain ⟨n7, k7, f7, g7, u7, v7⟩ := Qr7 h.Book (k6) l7 (fun x _ => trivial) (by omega) (by omega)
 refine ⟨(⟨h.No, n1, n2, n3, n4, n5, n6, n7, h.Now⟩ : House), k7, ?_, ?_, by omega, by omega⟩
 ·simp only [VJ, f1, f2, f3, f4, f5, f6, f7, Option.bind_some]
 ·simp only [Jh, g1, show decide (k1 < 0) = false from decide_eq_false (by omega), g2, show decide (k2 < 0) = false from decide_eq_false (by omega), g3, show decide (k3 < 0) = false from decide_eq_false (by omega), g4, show decide (k4 < 0) = false from decide_eq_false (by omega), g5, show decide (k5 < 0) = false from decide_eq_false (by omega), g6, show decide (k6 < 0) = false from decide_eq_false (by omega), g7, show decide (k7 < 0) = false from decide_eq_false (by omega), Option.bind_some, cond_false]
def Qq3 (x : Bid) : Prop := True
theorem Qwx (a : List Bid) (k : Int) (h : a.length ≤ 2097152) (hP : ∀ x ∈ a, Qq3 x) (h0 : 0 ≤ k) (hk : k ≤ 1152921504606846976) : ∃ a' k', QaL a k = some (a', k') ∧ k ≤ k' ∧ k' ≤ k + 6291456 := by
 have hW : ((a.length : Nat) : Int) * 3 ≤ 2097152 * 3 := few (by omega) (by omega)
 obtain ⟨a', k', e1, e3, e4⟩ := Qsi (sm := X9) (W := 3) (B := 2305843009213693952) (M := 2097152) (P := Qq3) (by omega) (fun a k i hi hM hx h0 h1 => by
  refine ⟨(⟨k, k + 1, k + 1 + 1⟩ : Bid), k + 1 + 1 + 1, ?_, by omega, by omega⟩
  ·simp (disch := omega) only [X9, Qu hi, Qh hi, Qz hi, Int.toNat_natCast, Vd, cond_true, cond_false, Qa, Option.bind_some, Int.natCast_succ]
  )
  (fun a k => by simp only [X9, Qx (Nat.le_refl _), cond_false]) a k h hP h0 (by omega)
 exact ⟨a', k', by unfold QaL; rw [e1]; rfl, e3, by omega⟩
end Go.Proofs.YtcdffihcfeajfaaGreat
