/- Steps of a claim's state. The program's answers are the reference's. No condition but the length. -/
import Derived.Test.YtcdffihcfeajfaaGreatPyFcS
namespace Go.Proofs.YtcdffihcfeajfaaGreat
open Go
set_option linter.unusedVariables false
set_option linter.unusedSimpArgs false
/-- Steps of a claim's state. -/
theorem setState (l : List Claim) (id s : Int) (hl : l.length ≤ 1048576) : ∃ r, spec_SetState l id s = some r ∧ impl_SetState l id s = some r ∧ r.1.length = l.length := by
  obtain ⟨c, c1, c2, c3⟩ := areClaims l hl
  unfold spec_SetState impl_SetState slices_Clone_Claim
  have hrm : rm (0 + l.length) 40 = true := rm_ok (by omega) (by omega)
  simp only [hrm, need_true, (findClaim l id hl).1, (findClaim l id hl).2, c1, c2, Option.bind_some]
  rcases claimIx_at l id with h | ⟨k, hk, h, hid⟩
  · rw [h]; exact ⟨(l, false), rfl, rfl, rfl⟩
  · rw [h, decide_eq_false (show ¬ (k : Int) < 0 by omega)]
    cases c with
    | false => exact ⟨(l, false), rfl, rfl, rfl⟩
    | true =>
      obtain ⟨d, d1, d2, d3⟩ := areClaims (l.set k ⟨l[k].Id, l[k].Who, l[k].Thing, l[k].At, s⟩) (by rw [List.length_set]; omega)
      simp only [cond_false, Option.bind_some, Bool.not_true, inb_n hk, gt_n hk, need_true, Int.toNat_natCast, d1, d2]
      have hset := List.length_set (as := l) (i := k) (a := (⟨l[k].Id, l[k].Who, l[k].Thing, l[k].At, s⟩ : Claim))
      cases decide (l[k].State = 0) <;> cases decide (s = 1) <;> cases decide (s = 2) <;> cases decide (l[k].State = 1) <;> cases decide (s = 3) <;> cases d <;> first | exact ⟨(l, false), rfl, rfl, rfl⟩ | exact ⟨(l.set k ⟨l[k].Id, l[k].Who, l[k].Thing, l[k].At, s⟩, true), rfl, rfl, hset⟩
end Go.Proofs.YtcdffihcfeajfaaGreat
