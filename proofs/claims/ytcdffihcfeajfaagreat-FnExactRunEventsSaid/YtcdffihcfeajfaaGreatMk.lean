import Derived.Test.YtcdffihcfeajfaaGreatFn
import Derived.Test.YtcdffihcfeajfaaGreatPyMk0
namespace Go.Proofs.YtcdffihcfeajfaaGreat
open Go
set_option maxHeartbeats 4000000
set_option linter.unusedVariables false
set_option linter.unusedSimpArgs false
set_option linter.defProp false
set_option maxRecDepth 100000
def Qsk (x : Find) : Prop := True
theorem QxU (a : List Find) (k : Int) (h : a.length ≤ 2097152) (hP : ∀ x ∈ a, Qsk x) (h0 : 0 ≤ k) (hk : k ≤ 1152921504606846976) : ∃ a' k', QbF a k = some (a', k') ∧ QbU a' k = some k' ∧ k ≤ k' ∧ k' ≤ k + 16777216 := by
 have hW : ((a.length : Nat) : Int) * 8 ≤ 2097152 * 8 := few (by omega) (by omega)
 obtain ⟨a', k', e1, e2, e3, e4⟩ := Qex (sm := Jq) (sh := fun a => Js a) (W := 8) (B := 2305843009213693952) (M := 2097152) (P := Qsk) (by omega) (fun a k i hi hM hx h0 h1 => by
  refine ⟨(⟨⟨k, k + 1, k + 1 + 1, k + 1 + 1 + 1, k + 1 + 1 + 1 + 1⟩, k + 1 + 1 + 1 + 1 + 1, k + 1 + 1 + 1 + 1 + 1 + 1, k + 1 + 1 + 1 + 1 + 1 + 1 + 1⟩ : Find), k + 1 + 1 + 1 + 1 + 1 + 1 + 1 + 1, ?_, by omega, by omega, fun b hb hy => ?_⟩
  ·simp (disch := omega) only [Jq, Qo hi, Qd hi, Qp hi, Int.toNat_natCast, Q9, cond_true, cond_false, Qa, Option.bind_some, Int.natCast_succ]
  ·simp (disch := omega) only [Js, Qo hb, Qd hb, Qp hb, hy, Q9, eq_self, decide_true, Bool.not_true, cond_true, cond_false, Qa, Option.bind_some, Int.natCast_succ]
  )
  (fun a k => by simp only [Jq, Qu (Nat.le_refl _), cond_false])
  (fun a k => by simp only [Js, Qu (Nat.le_refl _), cond_false]) a k h hP h0 (by omega)
 exact ⟨a', k', by unfold QbF; rw [e1]; rfl, by unfold QbU; rw [e2]; rfl, e3, by omega⟩
def Qsa (x : Mark) : Prop := True
theorem Qs1 (a : List Mark) (k : Int) (h : a.length ≤ 2097152) (hP : ∀ x ∈ a, Qsa x) (h0 : 0 ≤ k) (hk : k ≤ 1152921504606846976) : ∃ a' k', Qaw a k = some (a', k') ∧ QbC a' k = some k' ∧ k ≤ k' ∧ k' ≤ k + 4194304 := by
 have hW : ((a.length : Nat) : Int) * 2 ≤ 2097152 * 2 := few (by omega) (by omega)
 obtain ⟨a', k', e1, e2, e3, e4⟩ := Qex (sm := Je) (sh := fun a => Jl a) (W := 2) (B := 2305843009213693952) (M := 2097152) (P := Qsa) (by omega) (fun a k i hi hM hx h0 h1 => by
  refine ⟨(⟨k, k + 1⟩ : Mark), k + 1 + 1, ?_, by omega, by omega, fun b hb hy => ?_⟩
  ·simp (disch := omega) only [Je, Qo hi, Qd hi, Qp hi, Int.toNat_natCast, Q9, cond_true, cond_false, Qa, Option.bind_some, Int.natCast_succ]
  ·simp (disch := omega) only [Jl, Qo hb, Qd hb, Qp hb, hy, Q9, eq_self, decide_true, Bool.not_true, cond_true, cond_false, Qa, Option.bind_some, Int.natCast_succ]
  )
  (fun a k => by simp only [Je, Qu (Nat.le_refl _), cond_false])
  (fun a k => by simp only [Jl, Qu (Nat.le_refl _), cond_false]) a k h hP h0 (by omega)
 exact ⟨a', k', by unfold Qaw; rw [e1]; rfl, by unfold QbC; rw [e2]; rfl, e3, by omega⟩
def Qgs (x : Secret) : Prop := x.Marks.length ≤ 2097152
theorem Quw (a : List Secret) (k : Int) (h : a.length ≤ 2097152) (hP : ∀ x ∈ a, Qgs x) (h0 : 0 ≤ k) (hk : k ≤ 288230376151711744) : ∃ a' k', Qad a k = some (a', k') ∧ Qaz a' k = some k' ∧ k ≤ k' ∧ k' ≤ k + 8796097216512 := by
 have hW : ((a.length : Nat) : Int) * 4194306 ≤ 2097152 * 4194306 := few (by omega) (by omega)
 obtain ⟨a', k', e1, e2, e3, e4⟩ := Qex (sm := Xv) (sh := fun a => Xx a) (W := 4194306) (B := 576460752303423488) (M := 2097152) (P := Qgs) (by omega) (fun a k i hi hM hx h0 h1 => by
  have l1 : _ := hx
  obtain ⟨n1, k1, f1, g1, u1, v1⟩ := Qs1 (a[i]).Marks (k + 1) l1 (fun y hy => trivial) (by omega) (by omega)
  refine ⟨(⟨k, n1, k1⟩ : Secret), k1 + 1, ?_, by omega, by omega, fun b hb hy => ?_⟩
  ·simp (disch := omega) only [Xv, Qo hi, Qd hi, Qp hi, Int.toNat_natCast, Q9, cond_true, cond_false, Qa, Option.bind_some, Int.natCast_succ, f1]
  ·simp (disch := omega) only [Xx, Qo hb, Qd hb, Qp hb, hy, Q9, eq_self, decide_true, Bool.not_true, cond_true, cond_false, Qa, Option.bind_some, Int.natCast_succ, g1, show decide (k1 < 0) = false from decide_eq_false (by omega)]
  )
  (fun a k => by simp only [Xv, Qu (Nat.le_refl _), cond_false])
  (fun a k => by simp only [Xx, Qu (Nat.le_refl _), cond_false]) a k h hP h0 (by omega)
 exact ⟨a', k', by unfold Qad; rw [e1]; rfl, by unfold Qaz; rw [e2]; rfl, e3, by omega⟩
def Qta (x : Slot) : Prop := True
theorem Qz4 (a : List Slot) (k : Int) (h : a.length ≤ 2097152) (hP : ∀ x ∈ a, Qta x) (h0 : 0 ≤ k) (hk : k ≤ 1152921504606846976) : ∃ a' k', QbN a k = some (a', k') ∧ QbM a' k = some k' ∧ k ≤ k' ∧ k' ≤ k + 6291456 := by
 have hW : ((a.length : Nat) : Int) * 3 ≤ 2097152 * 3 := few (by omega) (by omega)
 obtain ⟨a', k', e1, e2, e3, e4⟩ := Qex (sm := Jo) (sh := fun a => Jm a) (W := 3) (B := 2305843009213693952) (M := 2097152) (P := Qta) (by omega) (fun a k i hi hM hx h0 h1 => by
  refine ⟨(⟨k, k + 1, k + 1 + 1⟩ : Slot), k + 1 + 1 + 1, ?_, by omega, by omega, fun b hb hy => ?_⟩
  ·simp (disch := omega) only [Jo, Qo hi, Qd hi, Qp hi, Int.toNat_natCast, Q9, cond_true, cond_false, Qa, Option.bind_some, Int.natCast_succ]
  ·simp (disch := omega) only [Jm, Qo hb, Qd hb, Qp hb, hy, Q9, eq_self, decide_true, Bool.not_true, cond_true, cond_false, Qa, Option.bind_some, Int.natCast_succ]
  )
  (fun a k => by simp only [Jo, Qu (Nat.le_refl _), cond_false])
  (fun a k => by simp only [Jm, Qu (Nat.le_refl _), cond_false]) a k h hP h0 (by omega)
 exact ⟨a', k', by unfold QbN; rw [e1]; rfl, by unfold QbM; rw [e2]; rfl, e3, by omega⟩
def Qp3 (x : Claim) : Prop := True
theorem QvZ (a : List Claim) (k : Int) (h : a.length ≤ 2097152) (hP : ∀ x ∈ a, Qp3 x) (h0 : 0 ≤ k) (hk : k ≤ 1152921504606846976) : ∃ a' k', QaW a k = some (a', k') ∧ QaR a' k = some k' ∧ k ≤ k' ∧ k' ≤ k + 10485760 := by
 have hW : ((a.length : Nat) : Int) * 5 ≤ 2097152 * 5 := few (by omega) (by omega)
 obtain ⟨a', k', e1, e2, e3, e4⟩ := Qex (sm := XT) (sh := fun a => XK a) (W := 5) (B := 2305843009213693952) (M := 2097152) (P := Qp3) (by omega) (fun a k i hi hM hx h0 h1 => by
  refine ⟨(⟨k, k + 1, k + 1 + 1, k + 1 + 1 + 1, k + 1 + 1 + 1 + 1⟩ : Claim), k + 1 + 1 + 1 + 1 + 1, ?_, by omega, by omega, fun b hb hy => ?_⟩
  ·simp (disch := omega) only [XT, Qo hi, Qd hi, Qp hi, Int.toNat_natCast, Q9, cond_true, cond_false, Qa, Option.bind_some, Int.natCast_succ]
  ·simp (disch := omega) only [XK, Qo hb, Qd hb, Qp hb, hy, Q9, eq_self, decide_true, Bool.not_true, cond_true, cond_false, Qa, Option.bind_some, Int.natCast_succ]
  )
  (fun a k => by simp only [XT, Qu (Nat.le_refl _), cond_false])
  (fun a k => by simp only [XK, Qu (Nat.le_refl _), cond_false]) a k h hP h0 (by omega)
 exact ⟨a', k', by unfold QaW; rw [e1]; rfl, by unfold QaR; rw [e2]; rfl, e3, by omega⟩
def QpW (x : Trial) : Prop := True
theorem Qwm (a : List Trial) (k : Int) (h : a.length ≤ 2097152) (hP : ∀ x ∈ a, QpW x) (h0 : 0 ≤ k) (hk : k ≤ 1152921504606846976) : ∃ a' k', QaV a k = some (a', k') ∧ Qbb a' k = some k' ∧ k ≤ k' ∧ k' ≤ k + 8388608 := by
 have hW : ((a.length : Nat) : Int) * 4 ≤ 2097152 * 4 := few (by omega) (by omega)
 obtain ⟨a', k', e1, e2, e3, e4⟩ := Qex (sm := XU) (sh := fun a => XL a) (W := 4) (B := 2305843009213693952) (M := 2097152) (P := QpW) (by omega) (fun a k i hi hM hx h0 h1 => by
  refine ⟨(⟨k, k + 1, k + 1 + 1, k + 1 + 1 + 1⟩ : Trial), k + 1 + 1 + 1 + 1, ?_, by omega, by omega, fun b hb hy => ?_⟩
  ·simp (disch := omega) only [XU, Qo hi, Qd hi, Qp hi, Int.toNat_natCast, Q9, cond_true, cond_false, Qa, Option.bind_some, Int.natCast_succ]
  ·simp (disch := omega) only [XL, Qo hb, Qd hb, Qp hb, hy, Q9, eq_self, decide_true, Bool.not_true, cond_true, cond_false, Qa, Option.bind_some, Int.natCast_succ]
  )
  (fun a k => by simp only [XU, Qu (Nat.le_refl _), cond_false])
  (fun a k => by simp only [XL, Qu (Nat.le_refl _), cond_false]) a k h hP h0 (by omega)
 exact ⟨a', k', by unfold QaV; rw [e1]; rfl, by unfold Qbb; rw [e2]; rfl, e3, by omega⟩
def Qse (x : Hand) : Prop := True
theorem QwU (a : List Hand) (k : Int) (h : a.length ≤ 2097152) (hP : ∀ x ∈ a, Qse x) (h0 : 0 ≤ k) (hk : k ≤ 1152921504606846976) : ∃ a' k', QbR a k = some (a', k') ∧ QbA a' k = some k' ∧ k ≤ k' ∧ k' ≤ k + 10485760 := by
 have hW : ((a.length : Nat) : Int) * 5 ≤ 2097152 * 5 := few (by omega) (by omega)
 obtain ⟨a', k', e1, e2, e3, e4⟩ := Qex (sm := Jg) (sh := fun a => Ja a) (W := 5) (B := 2305843009213693952) (M := 2097152) (P := Qse) (by omega) (fun a k i hi hM hx h0 h1 => by
  refine ⟨(⟨k, k + 1, k + 1 + 1, k + 1 + 1 + 1, k + 1 + 1 + 1 + 1⟩ : Hand), k + 1 + 1 + 1 + 1 + 1, ?_, by omega, by omega, fun b hb hy => ?_⟩
  ·simp (disch := omega) only [Jg, Qo hi, Qd hi, Qp hi, Int.toNat_natCast, Q9, cond_true, cond_false, Qa, Option.bind_some, Int.natCast_succ]
  ·simp (disch := omega) only [Ja, Qo hb, Qd hb, Qp hb, hy, Q9, eq_self, decide_true, Bool.not_true, cond_true, cond_false, Qa, Option.bind_some, Int.natCast_succ]
  )
  (fun a k => by simp only [Jg, Qu (Nat.le_refl _), cond_false])
  (fun a k => by simp only [Ja, Qu (Nat.le_refl _), cond_false]) a k h hP h0 (by omega)
 exact ⟨a', k', by unfold QbR; rw [e1]; rfl, by unfold QbA; rw [e2]; rfl, e3, by omega⟩
def QpU (x : Entry) : Prop := True
theorem QwO (a : List Entry) (k : Int) (h : a.length ≤ 2097152) (hP : ∀ x ∈ a, QpU x) (h0 : 0 ≤ k) (hk : k ≤ 1152921504606846976) : ∃ a' k', QaU a k = some (a', k') ∧ Qba a' k = some k' ∧ k ≤ k' ∧ k' ≤ k + 8388608 := by
 have hW : ((a.length : Nat) : Int) * 4 ≤ 2097152 * 4 := few (by omega) (by omega)
 obtain ⟨a', k', e1, e2, e3, e4⟩ := Qex (sm := XP) (sh := fun a => XQ a) (W := 4) (B := 2305843009213693952) (M := 2097152) (P := QpU) (by omega) (fun a k i hi hM hx h0 h1 => by
  refine ⟨(⟨k, k + 1, k + 1 + 1, k + 1 + 1 + 1⟩ : Entry), k + 1 + 1 + 1 + 1, ?_, by omega, by omega, fun b hb hy => ?_⟩
  ·simp (disch := omega) only [XP, Qo hi, Qd hi, Qp hi, Int.toNat_natCast, Q9, cond_true, cond_false, Qa, Option.bind_some, Int.natCast_succ]
  ·simp (disch := omega) only [XQ, Qo hb, Qd hb, Qp hb, hy, Q9, eq_self, decide_true, Bool.not_true, cond_true, cond_false, Qa, Option.bind_some, Int.natCast_succ]
  )
  (fun a k => by simp only [XP, Qu (Nat.le_refl _), cond_false])
  (fun a k => by simp only [XQ, Qu (Nat.le_refl _), cond_false]) a k h hP h0 (by omega)
 exact ⟨a', k', by unfold QaU; rw [e1]; rfl, by unfold Qba; rw [e2]; rfl, e3, by omega⟩
theorem Qx4 (h : House) (k : Int) (l1 : h.Finds.length ≤ 2097152) (l2 : h.Secrets.length ≤ 2097152) (p2 : ∀ x ∈ h.Secrets, Qgs x) (l3 : h.Slots.length ≤ 2097152) (l4 : h.Claims.length ≤ 2097152) (l5 : h.Trials.length ≤ 2097152) (l6 : h.Chain.length ≤ 2097152) (l7 : h.Book.length ≤ 2097152) (h0 : 0 ≤ k) (hk : k ≤ 1125899906842624) : ∃ h' k', Xs h k = some (h', k') ∧ Zh h' k = some k' ∧ k ≤ k' ∧ k' ≤ k + 8796158033920 := by
 obtain ⟨n1, k1, f1, g1, u1, v1⟩ := QxU h.Finds (k) l1 (fun x _ => trivial) (by omega) (by omega)
 obtain ⟨n2, k2, f2, g2, u2, v2⟩ := Quw h.Secrets (k1) l2 (p2) (by omega) (by omega)
 obtain ⟨n3, k3, f3, g3, u3, v3⟩ := Qz4 h.Slots (k2) l3 (fun x _ => trivial) (by omega) (by omega)
 obtain ⟨n4, k4, f4, g4, u4, v4⟩ := QvZ h.Claims (k3) l4 (fun x _ => trivial) (by omega) (by omega)
 obtain ⟨n5, k5, f5, g5, u5, v5⟩ := Qwm h.Trials (k4) l5 (fun x _ => trivial) (by omega) (by omega)
 obtain ⟨n6, k6, f6, g6, u6, v6⟩ := QwU h.Chain (k5) l6 (fun x _ => trivial) (by omega) (by omega)
 obtain ⟨n7, k7, f7, g7, u7, v7⟩ := QwO h.Book (k6) l7 (fun x _ => trivial) (by omega) (by omega)
 refine ⟨(⟨h.No, n1, n2, n3, n4, n5, n6, n7, h.Now⟩ : House), k7, ?_, ?_, by omega, by omega⟩
 ·simp only [Xs, f1, f2, f3, f4, f5, f6, f7, Option.bind_some]
 ·simp only [Zh, g1, show decide (k1 < 0) = false from decide_eq_false (by omega), g2, show decide (k2 < 0) = false from decide_eq_false (by omega), g3, show decide (k3 < 0) = false from decide_eq_false (by omega), g4, show decide (k4 < 0) = false from decide_eq_false (by omega), g5, show decide (k5 < 0) = false from decide_eq_false (by omega), g6, show decide (k6 < 0) = false from decide_eq_false (by omega), g7, show decide (k7 < 0) = false from decide_eq_false (by omega), Option.bind_some, cond_false]
def QuS (x : Bid) : Prop := True
theorem QAH (a : List Bid) (k : Int) (h : a.length ≤ 2097152) (hP : ∀ x ∈ a, QuS x) (h0 : 0 ≤ k) (hk : k ≤ 1152921504606846976) : ∃ a' k', QcJ a k = some (a', k') ∧ k ≤ k' ∧ k' ≤ k + 6291456 := by
 have hW : ((a.length : Nat) : Int) * 3 ≤ 2097152 * 3 := few (by omega) (by omega)
 obtain ⟨a', k', e1, e3, e4⟩ := Qqs (sm := JU) (W := 3) (B := 2305843009213693952) (M := 2097152) (P := QuS) (by omega) (fun a k i hi hM hx h0 h1 => by
  refine ⟨(⟨k, k + 1, k + 1 + 1⟩ : Bid), k + 1 + 1 + 1, ?_, by omega, by omega⟩
  ·simp (disch := omega) only [JU, Qo hi, Qd hi, Qp hi, Int.toNat_natCast, Q9, cond_true, cond_false, Qa, Option.bind_some, Int.natCast_succ]
  )
  (fun a k => by simp only [JU, Qu (Nat.le_refl _), cond_false]) a k h hP h0 (by omega)
 exact ⟨a', k', by unfold QcJ; rw [e1]; rfl, e3, by omega⟩
def Qp0 (x : Event) : Prop := x.Marks.length ≤ 2097152 ∧ x.Bids.length ≤ 2097152
theorem QvL (a : List Event) (k : Int) (h : a.length ≤ 2097152) (hP : ∀ x ∈ a, Qp0 x) (h0 : 0 ≤ k) (hk : k ≤ 288230376151711744) : ∃ a' k', Qa8 a k = some (a', k') ∧ k ≤ k' ∧ k' ≤ k + 21990257721344 := by
 have hW : ((a.length : Nat) : Int) * 10485772 ≤ 2097152 * 10485772 := few (by omega) (by omega)
 obtain ⟨a', k', e1, e3, e4⟩ := Qqs (sm := XG) (W := 10485772) (B := 576460752303423488) (M := 2097152) (P := Qp0) (by omega) (fun a k i hi hM hx h0 h1 => by
  obtain ⟨l1, l2⟩ := hx
  obtain ⟨n1, k1, f1, u1, v1⟩ := Qs1 (a[i]).Marks (k + 1 + 1 + 1 + 1 + 1 + 1 + 1 + 1 + 1) l1 (fun y hy => trivial) (by omega) (by omega)
  obtain ⟨n2, k2, f2, u2, v2⟩ := QAH (a[i]).Bids (k1 + 1 + 1 + 1) l2 (fun y hy => trivial) (by omega) (by omega)
  refine ⟨(⟨k, ⟨⟨k + 1, k + 1 + 1, k + 1 + 1 + 1, k + 1 + 1 + 1 + 1, k + 1 + 1 + 1 + 1 + 1⟩, k + 1 + 1 + 1 + 1 + 1 + 1, k + 1 + 1 + 1 + 1 + 1 + 1 + 1, k + 1 + 1 + 1 + 1 + 1 + 1 + 1 + 1⟩, n1, k1, k1 + 1, k1 + 1 + 1, n2⟩ : Event), k2, ?_, by omega, by omega⟩
  ·simp (disch := omega) only [XG, Qo hi, Qd hi, Qp hi, Int.toNat_natCast, Q9, cond_true, cond_false, Qa, Option.bind_some, Int.natCast_succ, f1, f2]
  )
  (fun a k => by simp only [XG, Qu (Nat.le_refl _), cond_false]) a k h hP h0 (by omega)
 exact ⟨a', k', by unfold Qa8; rw [e1]; rfl, e3, by omega⟩
end Go.Proofs.YtcdffihcfeajfaaGreat
