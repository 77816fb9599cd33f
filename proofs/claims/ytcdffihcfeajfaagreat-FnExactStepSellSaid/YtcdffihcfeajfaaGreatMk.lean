import Derived.Test.YtcdffihcfeajfaaGreatFn
import Derived.Test.YtcdffihcfeajfaaGreatPyMk0
namespace Go.Proofs.YtcdffihcfeajfaaGreat
open Go
set_option maxHeartbeats 4000000
set_option linter.unusedVariables false
set_option linter.unusedSimpArgs false
set_option linter.defProp false
set_option maxRecDepth 100000
def QoJ (x : Find) : Prop := True
theorem Qtl (a : List Find) (k : Int) (h : a.length ≤ 2097152) (hP : ∀ x ∈ a, QoJ x) (h0 : 0 ≤ k) (hk : k ≤ 1152921504606846976) : ∃ a' k', Qaa a k = some (a', k') ∧ Z9 a' k = some k' ∧ k ≤ k' ∧ k' ≤ k + 16777216 := by
 have hW : ((a.length : Nat) : Int) * 8 ≤ 2097152 * 8 := few (by omega) (by omega)
 obtain ⟨a', k', e1, e2, e3, e4⟩ := Qco (sm := XA) (sh := fun a => Xt a) (W := 8) (B := 2305843009213693952) (M := 2097152) (P := QoJ) (by omega) (fun a k i hi hM hx h0 h1 => by
  refine ⟨(⟨⟨k, k + 1, k + 1 + 1, k + 1 + 1 + 1, k + 1 + 1 + 1 + 1⟩, k + 1 + 1 + 1 + 1 + 1, k + 1 + 1 + 1 + 1 + 1 + 1, k + 1 + 1 + 1 + 1 + 1 + 1 + 1⟩ : Find), k + 1 + 1 + 1 + 1 + 1 + 1 + 1 + 1, ?_, by omega, by omega, fun b hb hy => ?_⟩
  ·simp (disch := omega) only [XA, Qu hi, Qg hi, Qz hi, Int.toNat_natCast, Vd, cond_true, cond_false, Qa, Option.bind_some, Int.natCast_succ]
  ·simp (disch := omega) only [Xt, Qu hb, Qg hb, Qz hb, hy, Vd, eq_self, decide_true, Bool.not_true, cond_true, cond_false, Qa, Option.bind_some, Int.natCast_succ]
  )
  (fun a k => by simp only [XA, Qx (Nat.le_refl _), cond_false])
  (fun a k => by simp only [Xt, Qx (Nat.le_refl _), cond_false]) a k h hP h0 (by omega)
 exact ⟨a', k', by unfold Qaa; rw [e1]; rfl, by unfold Z9; rw [e2]; rfl, e3, by omega⟩
def QoT (x : Mark) : Prop := True
theorem Qtb (a : List Mark) (k : Int) (h : a.length ≤ 2097152) (hP : ∀ x ∈ a, QoT x) (h0 : 0 ≤ k) (hk : k ≤ 1152921504606846976) : ∃ a' k', Qac a k = some (a', k') ∧ Qab a' k = some k' ∧ k ≤ k' ∧ k' ≤ k + 4194304 := by
 have hW : ((a.length : Nat) : Int) * 2 ≤ 2097152 * 2 := few (by omega) (by omega)
 obtain ⟨a', k', e1, e2, e3, e4⟩ := Qco (sm := Xy) (sh := fun a => Xr a) (W := 2) (B := 2305843009213693952) (M := 2097152) (P := QoT) (by omega) (fun a k i hi hM hx h0 h1 => by
  refine ⟨(⟨k, k + 1⟩ : Mark), k + 1 + 1, ?_, by omega, by omega, fun b hb hy => ?_⟩
  ·simp (disch := omega) only [Xy, Qu hi, Qg hi, Qz hi, Int.toNat_natCast, Vd, cond_true, cond_false, Qa, Option.bind_some, Int.natCast_succ]
  ·simp (disch := omega) only [Xr, Qu hb, Qg hb, Qz hb, hy, Vd, eq_self, decide_true, Bool.not_true, cond_true, cond_false, Qa, Option.bind_some, Int.natCast_succ]
  )
  (fun a k => by simp only [Xy, Qx (Nat.le_refl _), cond_false])
  (fun a k => by simp only [Xr, Qx (Nat.le_refl _), cond_false]) a k h hP h0 (by omega)
 exact ⟨a', k', by unfold Qac; rw [e1]; rfl, by unfold Qab; rw [e2]; rfl, e3, by omega⟩
def Qd0 (x : Secret) : Prop := x.Marks.length ≤ 2097152
theorem Qqs (a : List Secret) (k : Int) (h : a.length ≤ 2097152) (hP : ∀ x ∈ a, Qd0 x) (h0 : 0 ≤ k) (hk : k ≤ 288230376151711744) : ∃ a' k', J5 a k = some (a', k') ∧ J6 a' k = some k' ∧ k ≤ k' ∧ k' ≤ k + 8796097216512 := by
 have hW : ((a.length : Nat) : Int) * 4194306 ≤ 2097152 * 4194306 := few (by omega) (by omega)
 obtain ⟨a', k', e1, e2, e3, e4⟩ := Qco (sm := VM) (sh := fun a => VL a) (W := 4194306) (B := 576460752303423488) (M := 2097152) (P := Qd0) (by omega) (fun a k i hi hM hx h0 h1 => by
  have l1 : _ := hx
  obtain ⟨n1, k1, f1, g1, u1, v1⟩ := Qtb (a[i]).Marks (k + 1) l1 (fun y hy => trivial) (by omega) (by omega)
  refine ⟨(⟨k, n1, k1⟩ : Secret), k1 + 1, ?_, by omega, by omega, fun b hb hy => ?_⟩
  ·simp (disch := omega) only [VM, Qu hi, Qg hi, Qz hi, Int.toNat_natCast, Vd, cond_true, cond_false, Qa, Option.bind_some, Int.natCast_succ, f1]
  ·simp (disch := omega) only [VL, Qu hb, Qg hb, Qz hb, hy, Vd, eq_self, decide_true, Bool.not_true, cond_true, cond_false, Qa, Option.bind_some, Int.natCast_succ, g1, show decide (k1 < 0) = false from decide_eq_false (by omega)]
  )
  (fun a k => by simp only [VM, Qx (Nat.le_refl _), cond_false])
  (fun a k => by simp only [VL, Qx (Nat.le_refl _), cond_false]) a k h hP h0 (by omega)
 exact ⟨a', k', by unfold J5; rw [e1]; rfl, by unfold J6; rw [e2]; rfl, e3, by omega⟩
def Qot (x : Slot) : Prop := True
theorem Qvb (a : List Slot) (k : Int) (h : a.length ≤ 2097152) (hP : ∀ x ∈ a, Qot x) (h0 : 0 ≤ k) (hk : k ≤ 1152921504606846976) : ∃ a' k', Qak a k = some (a', k') ∧ Z7 a' k = some k' ∧ k ≤ k' ∧ k' ≤ k + 6291456 := by
 have hW : ((a.length : Nat) : Int) * 3 ≤ 2097152 * 3 := few (by omega) (by omega)
 obtain ⟨a', k', e1, e2, e3, e4⟩ := Qco (sm := XB) (sh := fun a => Xq a) (W := 3) (B := 2305843009213693952) (M := 2097152) (P := Qot) (by omega) (fun a k i hi hM hx h0 h1 => by
  refine ⟨(⟨k, k + 1, k + 1 + 1⟩ : Slot), k + 1 + 1 + 1, ?_, by omega, by omega, fun b hb hy => ?_⟩
  ·simp (disch := omega) only [XB, Qu hi, Qg hi, Qz hi, Int.toNat_natCast, Vd, cond_true, cond_false, Qa, Option.bind_some, Int.natCast_succ]
  ·simp (disch := omega) only [Xq, Qu hb, Qg hb, Qz hb, hy, Vd, eq_self, decide_true, Bool.not_true, cond_true, cond_false, Qa, Option.bind_some, Int.natCast_succ]
  )
  (fun a k => by simp only [XB, Qx (Nat.le_refl _), cond_false])
  (fun a k => by simp only [Xq, Qx (Nat.le_refl _), cond_false]) a k h hP h0 (by omega)
 exact ⟨a', k', by unfold Qak; rw [e1]; rfl, by unfold Z7; rw [e2]; rfl, e3, by omega⟩
def Qmx (x : Claim) : Prop := True
theorem QsW (a : List Claim) (k : Int) (h : a.length ≤ 2097152) (hP : ∀ x ∈ a, Qmx x) (h0 : 0 ≤ k) (hk : k ≤ 1152921504606846976) : ∃ a' k', ZE a k = some (a', k') ∧ ZH a' k = some k' ∧ k ≤ k' ∧ k' ≤ k + 10485760 := by
 have hW : ((a.length : Nat) : Int) * 5 ≤ 2097152 * 5 := few (by omega) (by omega)
 obtain ⟨a', k', e1, e2, e3, e4⟩ := Qco (sm := V8) (sh := fun a => V3 a) (W := 5) (B := 2305843009213693952) (M := 2097152) (P := Qmx) (by omega) (fun a k i hi hM hx h0 h1 => by
  refine ⟨(⟨k, k + 1, k + 1 + 1, k + 1 + 1 + 1, k + 1 + 1 + 1 + 1⟩ : Claim), k + 1 + 1 + 1 + 1 + 1, ?_, by omega, by omega, fun b hb hy => ?_⟩
  ·simp (disch := omega) only [V8, Qu hi, Qg hi, Qz hi, Int.toNat_natCast, Vd, cond_true, cond_false, Qa, Option.bind_some, Int.natCast_succ]
  ·simp (disch := omega) only [V3, Qu hb, Qg hb, Qz hb, hy, Vd, eq_self, decide_true, Bool.not_true, cond_true, cond_false, Qa, Option.bind_some, Int.natCast_succ]
  )
  (fun a k => by simp only [V8, Qx (Nat.le_refl _), cond_false])
  (fun a k => by simp only [V3, Qx (Nat.le_refl _), cond_false]) a k h hP h0 (by omega)
 exact ⟨a', k', by unfold ZE; rw [e1]; rfl, by unfold ZH; rw [e2]; rfl, e3, by omega⟩
def Qmq (x : Trial) : Prop := True
theorem QsH (a : List Trial) (k : Int) (h : a.length ≤ 2097152) (hP : ∀ x ∈ a, Qmq x) (h0 : 0 ≤ k) (hk : k ≤ 1152921504606846976) : ∃ a' k', ZK a k = some (a', k') ∧ ZF a' k = some k' ∧ k ≤ k' ∧ k' ≤ k + 8388608 := by
 have hW : ((a.length : Nat) : Int) * 4 ≤ 2097152 * 4 := few (by omega) (by omega)
 obtain ⟨a', k', e1, e2, e3, e4⟩ := Qco (sm := V4) (sh := fun a => VX a) (W := 4) (B := 2305843009213693952) (M := 2097152) (P := Qmq) (by omega) (fun a k i hi hM hx h0 h1 => by
  refine ⟨(⟨k, k + 1, k + 1 + 1, k + 1 + 1 + 1⟩ : Trial), k + 1 + 1 + 1 + 1, ?_, by omega, by omega, fun b hb hy => ?_⟩
  ·simp (disch := omega) only [V4, Qu hi, Qg hi, Qz hi, Int.toNat_natCast, Vd, cond_true, cond_false, Qa, Option.bind_some, Int.natCast_succ]
  ·simp (disch := omega) only [VX, Qu hb, Qg hb, Qz hb, hy, Vd, eq_self, decide_true, Bool.not_true, cond_true, cond_false, Qa, Option.bind_some, Int.natCast_succ]
  )
  (fun a k => by simp only [V4, Qx (Nat.le_refl _), cond_false])
  (fun a k => by simp only [VX, Qx (Nat.le_refl _), cond_false]) a k h hP h0 (by omega)
 exact ⟨a', k', by unfold ZK; rw [e1]; rfl, by unfold ZF; rw [e2]; rfl, e3, by omega⟩
def Qog (x : Hand) : Prop := True
theorem Qu1 (a : List Hand) (k : Int) (h : a.length ≤ 2097152) (hP : ∀ x ∈ a, Qog x) (h0 : 0 ≤ k) (hk : k ≤ 1152921504606846976) : ∃ a' k', Qad a k = some (a', k') ∧ Qan a' k = some k' ∧ k ≤ k' ∧ k' ≤ k + 10485760 := by
 have hW : ((a.length : Nat) : Int) * 5 ≤ 2097152 * 5 := few (by omega) (by omega)
 obtain ⟨a', k', e1, e2, e3, e4⟩ := Qco (sm := Xp) (sh := fun a => Xu a) (W := 5) (B := 2305843009213693952) (M := 2097152) (P := Qog) (by omega) (fun a k i hi hM hx h0 h1 => by
  refine ⟨(⟨k, k + 1, k + 1 + 1, k + 1 + 1 + 1, k + 1 + 1 + 1 + 1⟩ : Hand), k + 1 + 1 + 1 + 1 + 1, ?_, by omega, by omega, fun b hb hy => ?_⟩
  ·simp (disch := omega) only [Xp, Qu hi, Qg hi, Qz hi, Int.toNat_natCast, Vd, cond_true, cond_false, Qa, Option.bind_some, Int.natCast_succ]
  ·simp (disch := omega) only [Xu, Qu hb, Qg hb, Qz hb, hy, Vd, eq_self, decide_true, Bool.not_true, cond_true, cond_false, Qa, Option.bind_some, Int.natCast_succ]
  )
  (fun a k => by simp only [Xp, Qx (Nat.le_refl _), cond_false])
  (fun a k => by simp only [Xu, Qx (Nat.le_refl _), cond_false]) a k h hP h0 (by omega)
 exact ⟨a', k', by unfold Qad; rw [e1]; rfl, by unfold Qan; rw [e2]; rfl, e3, by omega⟩
def Qmw (x : Entry) : Prop := True
theorem Qr9 (a : List Entry) (k : Int) (h : a.length ≤ 2097152) (hP : ∀ x ∈ a, Qmw x) (h0 : 0 ≤ k) (hk : k ≤ 1152921504606846976) : ∃ a' k', ZO a k = some (a', k') ∧ ZD a' k = some k' ∧ k ≤ k' ∧ k' ≤ k + 8388608 := by
 have hW : ((a.length : Nat) : Int) * 4 ≤ 2097152 * 4 := few (by omega) (by omega)
 obtain ⟨a', k', e1, e2, e3, e4⟩ := Qco (sm := VY) (sh := fun a => V5 a) (W := 4) (B := 2305843009213693952) (M := 2097152) (P := Qmw) (by omega) (fun a k i hi hM hx h0 h1 => by
  refine ⟨(⟨k, k + 1, k + 1 + 1, k + 1 + 1 + 1⟩ : Entry), k + 1 + 1 + 1 + 1, ?_, by omega, by omega, fun b hb hy => ?_⟩
  ·simp (disch := omega) only [VY, Qu hi, Qg hi, Qz hi, Int.toNat_natCast, Vd, cond_true, cond_false, Qa, Option.bind_some, Int.natCast_succ]
  ·simp (disch := omega) only [V5, Qu hb, Qg hb, Qz hb, hy, Vd, eq_self, decide_true, Bool.not_true, cond_true, cond_false, Qa, Option.bind_some, Int.natCast_succ]
  )
  (fun a k => by simp only [VY, Qx (Nat.le_refl _), cond_false])
  (fun a k => by simp only [V5, Qx (Nat.le_refl _), cond_false]) a k h hP h0 (by omega)
 exact ⟨a', k', by unfold ZO; rw [e1]; rfl, by unfold ZD; rw [e2]; rfl, e3, by omega⟩
theorem Quw (h : House) (k : Int) (l1 : h.Finds.length ≤ 2097152) (l2 : h.Secrets.length ≤ 2097152) (p2 : ∀ x ∈ h.Secrets, Qd0 x) (l3 : h.Slots.length ≤ 2097152) (l4 : h.Claims.length ≤ 2097152) (l5 : h.Trials.length ≤ 2097152) (l6 : h.Chain.length ≤ 2097152) (l7 : h.Book.length ≤ 2097152) (h0 : 0 ≤ k) (hk : k ≤ 1000000) : ∃ h' k', VG h k = some (h', k') ∧ Jg h' k = some k' ∧ k ≤ k' ∧ k' ≤ k + 8796158033920 := by
 obtain ⟨n1, k1, f1, g1, u1, v1⟩ := Qtl h.Finds (k) l1 (fun x _ => trivial) (by omega) (by omega)
 obtain ⟨n2, k2, f2, g2, u2, v2⟩ := Qqs h.Secrets (k1) l2 (p2) (by omega) (by omega)
 obtain ⟨n3, k3, f3, g3, u3, v3⟩ := Qvb h.Slots (k2) l3 (fun x _ => trivial) (by omega) (by omega)
 obtain ⟨n4, k4, f4, g4, u4, v4⟩ := QsW h.Claims (k3) l4 (fun x _ => trivial) (by omega) (by omega)
 obtain ⟨n5, k5, f5, g5, u5, v5⟩ := QsH h.Trials (k4) l5 (fun x _ => trivial) (by omega) (by omega)
 obtain ⟨n6, k6, f6, g6, u6, v6⟩ := Qu1 h.Chain (k5) l6 (fun x _ => trivial) (by omega) (by omega)
 obtain ⟨n7, k7, f7, g7, u7, v7⟩ := Qr9 h.Book (k6) l7 (fun x _ => trivial) (by omega) (by omega)
 refine ⟨(⟨h.No, n1, n2, n3, n4, n5, n6, n7, h.Now⟩ : House), k7, ?_, ?_, by omega, by omega⟩
 ·simp only [VG, f1, f2, f3, f4, f5, f6, f7, Option.bind_some]
 ·simp only [Jg, g1, show decide (k1 < 0) = false from decide_eq_false (by omega), g2, show decide (k2 < 0) = false from decide_eq_false (by omega), g3, show decide (k3 < 0) = false from decide_eq_false (by omega), g4, show decide (k4 < 0) = false from decide_eq_false (by omega), g5, show decide (k5 < 0) = false from decide_eq_false (by omega), g6, show decide (k6 < 0) = false from decide_eq_false (by omega), g7, show decide (k7 < 0) = false from decide_eq_false (by omega), Option.bind_some, cond_false]
def Qrm (x : Bid) : Prop := True
theorem QwZ (a : List Bid) (k : Int) (h : a.length ≤ 2097152) (hP : ∀ x ∈ a, Qrm x) (h0 : 0 ≤ k) (hk : k ≤ 1152921504606846976) : ∃ a' k', QaY a k = some (a', k') ∧ k ≤ k' ∧ k' ≤ k + 6291456 := by
 have hW : ((a.length : Nat) : Int) * 3 ≤ 2097152 * 3 := few (by omega) (by omega)
 obtain ⟨a', k', e1, e3, e4⟩ := QsD (sm := X8) (W := 3) (B := 2305843009213693952) (M := 2097152) (P := Qrm) (by omega) (fun a k i hi hM hx h0 h1 => by
  refine ⟨(⟨k, k + 1, k + 1 + 1⟩ : Bid), k + 1 + 1 + 1, ?_, by omega, by omega⟩
  ·simp (disch := omega) only [X8, Qu hi, Qg hi, Qz hi, Int.toNat_natCast, Vd, cond_true, cond_false, Qa, Option.bind_some, Int.natCast_succ]
  )
  (fun a k => by simp only [X8, Qx (Nat.le_refl _), cond_false]) a k h hP h0 (by omega)
 exact ⟨a', k', by unfold QaY; rw [e1]; rfl, e3, by omega⟩
end Go.Proofs.YtcdffihcfeajfaaGreat
