import Derived.Test.YtkbilciipmijjaaGreatPz5
namespace Go.Proofs.YtkbilciipmijjaaGreat
open Go
set_option linter.unusedVariables false
set_option linter.unusedSimpArgs false
theorem QjD (c : List Int) (h1 : (okL (Qyp .u8)) c) : Qbg c = some true := by
 unfold Qbg Qip
 simp only [Option.bind_some]
 by_cases hb : 1048576 < ln c
 ·rw [decide_eq_true hb]; rfl
 rw [decide_eq_false hb]
 rw [Q0] at hb
 have hc : c.length ≤ 1048576 := by omega
 obtain ⟨cu, e0, k0⟩ := Qo3 c hc
 obtain ⟨c1, l, e1, _, n1⟩ := Qt9 cu k0
 have hl : l.length ≤ 1048576 := by omega
 have d1 : XI c = some l := by unfold XI Qar; simp only [e0, e1, Option.bind_some]
 obtain ⟨c2, cl, e2, _, n2, _⟩ := QtB cu k0
 have d2 : Xw c = some cl := by unfold Xw ZU; simp only [e0, e2, Option.bind_some]
 obtain ⟨a, d3, ha⟩ := QlK c hc
 obtain ⟨b, b1, b2, _⟩ := Qkw l hl
 obtain ⟨bp, p1, p2⟩ := QuA l hl
 have hsum := Qud c l hl
 obtain ⟨old, o1⟩ := Qn1 l hl
 have o2 := QvS c l old hl o1
 obtain ⟨w, w1, w2⟩ := QCq l hl
 obtain ⟨op, op1, op2⟩ := QIe cl n2
 obtain ⟨sh, s1, s2, s3⟩ := Qnu a ha
 have tail : (bif (decide (0 ≤ sh)) then (bif (decide (sh ≤ 100)) then (X2 l).bind fun r13 => (bif (decide (0 ≤ r13)) then (VI cl).bind fun r14 => some (decide (r14 ≤ ln cl)) else some false) else (QF a).bind fun r15 => (bif (!r15) then (X2 l).bind fun r16 => (bif (decide (0 ≤ r16)) then (VI cl).bind fun r17 => some (decide (r17 ≤ ln cl)) else some false) else some false)) else some false : Option Bool) = some true := by
  rw [decide_eq_true s2, w1, op1]
  by_cases h100 : sh ≤ 100
  ·simp only [decide_eq_true h100, decide_eq_true w2, decide_eq_true op2, cond_true, Option.bind_some]
  ·obtain ⟨q, q1, q2⟩ := s3 (by omega)
   rw [q1, q2]
   simp only [decide_eq_false h100, decide_eq_true w2, decide_eq_true op2, cond_true, cond_false, Option.bind_some, Bool.not_false]
 have rest : ∀ r3 : Int, run (QY c l r3) 1 = some (.brk ()) → ((run (QY c l r3) 1).bind (evO (fun r7 => some r7) fun b3 => (Xz l).bind fun r8 => (run (Q7 c l r8) 0).bind (evO (fun r9 => some r9) fun b4 => (Xi c).bind fun r10 => (Xw c).bind fun r11 => (JP r10).bind fun r12 => (bif (decide (0 ≤ r12)) then (bif (decide (r12 ≤ 100)) then (X2 l).bind fun r13 => (bif (decide (0 ≤ r13)) then (VI r11).bind fun r14 => some (decide (r14 ≤ ln r11)) else some false) else (QF r10).bind fun r15 => (bif (!r15) then (X2 l).bind fun r16 => (bif (decide (0 ≤ r16)) then (VI r11).bind fun r17 => some (decide (r17 ≤ ln r11)) else some false) else some false)) else some false).bind fun b5 => some b5)) : Option Bool) = some true := by
  intro r3 h
  rw [h]
  simp only [Option.bind_some, evO, o1, o2, d2, d3, s1]
  rw [tail]; rfl
 simp only [d1, hsum, b1, b2, decide_true, Bool.not_true, cond_false, Option.bind_some]
 unfold Qan
 simp only [b2, Option.bind_some]
 cases b with
 | false =>
  simp only [Bool.not_false, cond_true, Option.bind_some, Bool.false_and, cond_false]
  refine rest 0 ?_
  rw [Qf]
  simp only [QY, show decide ((0 : Int) < 0) = false from rfl, Bool.and_false, cond_false, Option.bind_some]
 | true =>
  have ok := QuB l hl b1
  have hk := Qv1 l (fun x hx => (ok x hx).1)
  simp only [Bool.not_true, cond_false, p1, Option.bind_some, Bool.true_and]
  have q1 : decide (((kn l 1 + kn l 2 + kn l 3 + kn l 4 + kn l 5 + kn l 6 + kn l 7 + kn l 8 : Nat) : Int) = ln l) = true := decide_eq_true (by rw [hk, Q0])
  have q2 : decide ((decide (bp = 0)) = (decide (ln l = 0))) = true := by
   refine decide_eq_true (decide_eq_decide.2 ?_)
   rw [Q0]
   rcases p2 with ⟨z, hz⟩ | ⟨z, z1, hz⟩
   ·refine ⟨fun _ => ?_, fun _ => z⟩
    cases l with
    | nil => rfl
    | cons x l =>
     exfalso
     have hx := (ok x (by simp)).2
     have := hz x.Place hx.1 hx.2
     unfold cp at this
     rw [List.filter_cons] at this
     simp at this
   ·refine ⟨fun h => by omega, fun h => ?_⟩
    exfalso
    have : l = [] := List.length_eq_zero_iff.1 (by omega)
    subst this
    simp [cp] at z1
  simp only [q1, q2, Bool.not_true, Bool.or_self, cond_false]
  exact rest bp (Qp6 c l bp hl p2)
end Go.Proofs.YtkbilciipmijjaaGreat
