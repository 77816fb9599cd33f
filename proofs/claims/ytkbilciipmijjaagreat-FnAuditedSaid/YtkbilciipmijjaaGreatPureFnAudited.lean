import Derived.Test.YtkbilciipmijjaaGreatPz5
namespace Go.Proofs.YtkbilciipmijjaaGreat
open Go
set_option linter.unusedVariables false
set_option linter.unusedSimpArgs false
theorem QlO (c : List Int) (h1 : (okL (Qx9 .u8)) c) : Qb3 c = some true := by
 unfold Qb3 Qiv
 simp only [Option.bind_some]
 by_cases hb : 1048576 < ln c
 ·rw [decide_eq_true hb]; rfl
 rw [decide_eq_false hb]
 rw [Vz] at hb
 obtain ⟨h, e, hm⟩ := QiL c (by omega)
 have d : ZF c = some h := by unfold ZF; rw [e]; rfl
 obtain ⟨b, b1, b2⟩ := QnS h hm
 unfold Qc2
 simp only [d, b2, cond_false, Option.bind_some]
 cases b with
 | false => rfl
 | true =>
  obtain ⟨x, _, c2⟩ := Qo7 h hm b1
  obtain ⟨y, _, d2⟩ := Qtz h hm
  obtain ⟨z, _, e2⟩ := Qn9 h hm
  obtain ⟨k, _, k2⟩ := QqW h hm
  simp only [c2, d2, e2, k2, Option.bind_some, cond_true, cond_false, Bool.not_true]
  cases x <;> cases y <;> cases z <;> cases k <;> rfl
end Go.Proofs.YtkbilciipmijjaaGreat
