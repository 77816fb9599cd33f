/- The laws' own helpers, plainly: a copy is what it copies, and is equal to itself. No condition. -/
import Derived.Test.YtkbilciipmijjaaGreatDoorFn
import Derived.Test.YtkbilciipmijjaaGreatDoorPl
namespace Go.Proofs.YtkbilciipmijjaaGreatDoor
open Go
set_option maxHeartbeats 4000000
set_option linter.unusedVariables false
set_option linter.unusedSimpArgs false
set_option linter.defProp false
set_option maxRecDepth 100000
theorem sz_small {n : Nat} (h0 : (n : Int) ≤ 9223372036854775807) (h : decide (w64 (1048576 - (n : Int)) < 0) = false) : n ≤ 1048576 := by
  have := of_decide_eq_false h
  rw [w64_in (by omega) (by omega)] at this; omega
theorem mkB_ok {n b : Nat} (h : n ≤ 1048576) (hb : b ≤ 1024) : mkB (n : Int) b = true := by
  unfold mkB
  have h1 : n * b ≤ 1048576 * 1024 := Nat.mul_le_mul h hb
  have h2 := Int.ofNat_le.2 h1
  rw [Int.natCast_mul] at h2
  have h3 : (n : Int) * (b : Int) ≤ 140737488355328 := by omega
  simp only [h3, Int.natCast_nonneg, decide_true, Bool.and_self]
theorem rm_ok {n b : Nat} (h : n ≤ 2000000) (hb : b ≤ 1024) : rm n b = true := by
  unfold rm
  have h1 : n * b ≤ 2000000 * 1024 := Nat.mul_le_mul h hb
  have h3 : n * b ≤ 140737488355328 := by omega
  simp only [h3, decide_true]
/-- Small. -/
def smL {α : Type} (ok : α → Prop) (l : List α) : Prop := l.length ≤ 1048576 ∧ ∀ x ∈ l, ok x
def sm_Secret (x : Secret) : Prop := x.Marks.length ≤ 1048576
def sm_House (x : House) : Prop := x.Finds.length ≤ 1048576 ∧ smL sm_Secret x.Secrets ∧ x.Slots.length ≤ 1048576 ∧ x.Claims.length ≤ 1048576 ∧ x.Trials.length ≤ 1048576 ∧ x.Chain.length ≤ 1048576 ∧ x.Book.length ≤ 1048576
end Go.Proofs.YtkbilciipmijjaaGreatDoor
