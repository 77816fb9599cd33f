import Derived.Test.YtncpklppoancgaaGreatPz4
namespace Go.Proofs.YtncpklppoancgaaGreat
open Go
set_option linter.unusedVariables false
set_option linter.unusedSimpArgs false
theorem Qty (c : l1Cur) (a : Int) (h : okC c) : ∃ c' b, Qbm c a = some (c', b) ∧ okC c' := by
 obtain ⟨c1, x1, e1, k1, _⟩ := Qd c a h
 exact ⟨c1, _, by unfold Qbm; rw [e1]; rfl, k1⟩
theorem QuP (c : List Int) (hc : c.length ≤ 1048576) : ∃ r, Jv c = some r ∧ r.2.length ≤ 1048576 := by
 obtain ⟨cu, e0, k0⟩ := QfH c hc
 obtain ⟨c1, x1, e1, k1, _⟩ := Vd cu [1, 5, 9, 10, 0] k0 (by simp)
 obtain ⟨c2, b2, e2, k2⟩ := Qty c1 3 k1
 obtain ⟨c3, l3, e3, k3, n3, _⟩ := QjW c2 k2
 obtain ⟨c4, l4, e4, k4, n4⟩ := Qg1 c2 k2
 unfold Jv
 simp only [e0, e1, e2, e3, e4, Option.bind_some]
 cases b2 with
 | true => exact ⟨_, rfl, by show l3.length ≤ _; omega⟩
 | false => exact ⟨_, rfl, by show l4.length ≤ _; omega⟩
theorem QqJ (c : List Int) (hc : c.length ≤ 1048576) : ∃ r, JQ c = some r ∧ r.1.Trials.length ≤ 1048576 := by
 obtain ⟨cu, e0, k0⟩ := QfH c hc
 obtain ⟨c1, a, e1, k1, _⟩ := Qd3 cu k0
 obtain ⟨c2, x2, e2, k2, _⟩ := Qd c1 6 k1
 unfold JQ
 simp only [e0, e1, e2, Option.bind_some]
 exact ⟨_, rfl, by simp⟩
theorem Qt3 (c : List Int) (hc : c.length ≤ 1048576) : ∃ r, Xf c = some r ∧ V0 r.1 ∧ V0 r.2 := by
 obtain ⟨cu, e0, k0⟩ := QfH c hc
 obtain ⟨c1, a, e1, k1, s1, _, t1, b1, _⟩ := Qd3 cu k0
 obtain ⟨c2, x2, e2, k2, _⟩ := Qd c1 6 k1
 obtain ⟨c3, b, e3, k3, s3, _⟩ := Qd3 c2 k2
 have m := s1
 obtain ⟨m1, m2, m3, m4, m5, m6, m7⟩ := m
 unfold Xf
 simp only [e0, e1, e2, e3, Qk9 a s1, Xk (show a.Book.length + 1 ≤ 2000000 by omega) (show 32 ≤ 1024 by omega), Xk (show a.Trials.length + 1 ≤ 2000000 by omega) (show 32 ≤ 1024 by omega), Qa, Option.bind_some]
 cases decide (x2 = 0) with
 | true => exact ⟨_, rfl, s1, s3⟩
 | false =>
 cases decide (x2 = 1) with
 | true => exact ⟨_, rfl, s1, ⟨m1, m2, m3, m4, m5, m6, m7⟩⟩
 | false =>
 cases decide (x2 = 2) with
 | true => exact ⟨_, rfl, s1, ⟨m1, m2, m3, m4, m5, m6, by simp only [List.length_append, List.length_cons, List.length_nil]; omega⟩⟩
 | false =>
 cases decide (x2 = 3) with
 | true => exact ⟨_, rfl, s1, ⟨m1, m2, m3, m4, by simp only [List.length_append, List.length_cons, List.length_nil]; omega, m6, m7⟩⟩
 | false => exact ⟨_, rfl, s1, s1⟩
theorem Qra (c : List Int) (hc : c.length ≤ 1048576) : ∃ r, ZF c = some r ∧ V0 r ∧ (r.Finds = [] ∨ r.Secrets = []) := by
 obtain ⟨cu, e0, k0⟩ := QfH c hc
 obtain ⟨c1, a, e1, k1, s1, f1, _, _, p1, q1⟩ := Qd3 cu k0
 obtain ⟨m1, m2, m3, m4, m5, m6, m7⟩ := s1
 obtain ⟨b, hb, hn⟩ : ∃ b, run (Vn a) (a.Slots, 0) = some b ∧ b.length ≤ 1048576 := by
  have key : ∀ (m i : Nat) (s : List Slot), a.Finds.length ≤ i + m → s.length + m ≤ 1048576 → ∃ b, run (Vn a) (s, (i : Int)) = some b ∧ b.length ≤ 1048576 := by
   intro m
   induction m with
   | zero =>
    intro i s hi hs
    exact ⟨s, by rw [Qi]; simp only [Vn, QH (show a.Finds.length ≤ i by omega), cond_false, Option.bind_some], by omega⟩
   | succ m ih =>
    intro i s hi hs
    by_cases hlt : i < a.Finds.length
    ·obtain ⟨b, hb, hn⟩ := ih (i + 2) (s ++ [⟨w64 (40 + (i : Int)), 1, a.Finds[i].Thing.Id⟩]) (by omega) (by simp; omega)
     refine ⟨b, ?_, hn⟩
     rw [Qi]
     simp only [Vn, QF hlt, Qh hlt, Qu hlt, Xk (show s.length + 1 ≤ 2000000 by omega) (show 24 ≤ 1024 by omega), cond_true, Qa, Option.bind_some, show w64 ((i : Int) + 2) = ((i + 2 : Nat) : Int) from by rw [VK] <;> omega]
     exact hb
    ·exact ⟨s, by rw [Qi]; simp only [Vn, QH (show a.Finds.length ≤ i by omega), cond_false, Option.bind_some], by omega⟩
  exact key a.Finds.length 0 a.Slots (by omega) (by omega)
 unfold ZF ZJ
 simp only [e0, e1, Option.bind_some, Xk (show 0 + a.Slots.length ≤ 2000000 by omega) (show 24 ≤ 1024 by omega), Qa, hb]
 exact ⟨_, rfl, ⟨m1, m2, hn, m4, m5, m6, m7⟩, f1⟩
theorem Qsn (h : House) (c : Int) (hl : h.Trials.length ≤ 1048576) : ∃ r, QaA h c = some r ∧ (r.2 = true → r.1.Claim = c) := by
 have hi := JW h.Trials (fun x => decide (x.Claim = c)) (fun i => (i : Int)) (step := Qt h.Trials c (ln h.Trials))
  (fun i hi => by
   simp only [Qt, Qaw, Option.bind_some, QF hi, Qh hi, Qu hi, QU (show (i : Int) < 9223372036854775807 by omega), cond_true, Qa]
   cases decide (h.Trials[i].Claim = c) <;> rfl)
  (by simp only [Qt, QH (Nat.le_refl _), cond_false])
 unfold QaA Qbv Q0
 rw [hi]
 cases hf : h.Trials.findIdx? (fun x => decide (x.Claim = c)) with
 | none => exact ⟨_, rfl, fun h => by cases h⟩
 | some i =>
  obtain ⟨hi', hp⟩ := QbX hf
  simp only [Option.bind_some, evO, decide_eq_false (show ¬ (i : Int) < 0 by omega), cond_false, Qh hi', Qu hi', Qa]
  exact ⟨_, rfl, fun _ => by simpa using hp⟩
theorem Qjm (c : List Int) (h1 : (okL (QuI .u8)) c) : Qa3 c = some true := by
 unfold Qa3 QfB
 simp only [Option.bind_some]
 by_cases hb : 1048576 < ln c
 ·rw [decide_eq_true hb]; rfl
 rw [decide_eq_false hb]
 rw [Qr] at hb
 have hc : c.length ≤ 1048576 := by omega
 obtain ⟨r2, d1, n1⟩ := QuP c hc
 obtain ⟨r3, s, i1, m1, a1, v1, w1⟩ := QKq r2.1 r2.2 n1
 obtain ⟨x, d2, m2, f2⟩ := Qra c hc
 obtain ⟨y, d3, n3⟩ := QqJ c hc
 obtain ⟨t, i3, v3⟩ := Qsn y.1 y.2 n3
 obtain ⟨p, d4, m4, m4'⟩ := Qt3 c hc
 have k1 : (bif r3.2 then (QZ r3.1).bind fun r6 => (bif (!r6) then some true else (JB r3.1).bind fun r7 => some (!decide (ln r7 = 0))) else some false) = some false := by
  cases h : r3.2 with
  | false => rfl
  | true =>
   obtain ⟨g1, g2⟩ := v1 h
   rw [g1, Qs4 r3.1 m1.1 m1.2.2.1, g2]
   rfl
 obtain ⟨z, z1, z2⟩ := QkR x m2
 have hs := Qs4 x m2.1 m2.2.2.1
 have k2 : ((QZ x).bind fun r16 => (bif r16 then (XD x.Chain x.No).bind fun r17 => (Zk ((x.Finds.filter fun y => QdI x.Slots y.Thing.Id).map fun y => y.Thing.Id) r17).bind fun r18 => (bif (!r18) then some true else (X2 x.Slots).bind fun r19 => some (!decide (ln ((x.Finds.filter fun y => QdI x.Slots y.Thing.Id).map fun y => y.Thing.Id) = w64 ((ln x.Slots) - r19)))) else some false)) = some false := by
  rw [z2]
  cases z with
  | false => rfl
  | true =>
   have ho := Qlc x m2 z2
   have hl := QkJ x ho.kept
   have hf : x.Finds = [] := by
    rcases f2 with f2 | f2
    ·exact f2
    ·rw [f2] at hl; exact List.eq_nil_of_length_eq_zero hl.symm
   have e : Zk [] [] = some true := by unfold Zk; rw [Qi]; rfl
   have hfree := (Qik x.Slots).2 (QgU x m2.2.2.1 hf ho.kept)
   simp only [Option.bind_some, cond_true, QuB x m2.2.2.1 hf ho.kept, hf, List.filter_nil, List.map_nil, e, Bool.not_true, cond_false, QxF x.Slots m2.2.2.1, hfree, Int.sub_self]
   rfl
 have k4 : (QM p.1 p.2).bind (fun r23 => (QM p.2 p.1).bind fun r24 => (bif (decide (r23 = r24)) then (QM p.1 p.1).bind fun r25 => some r25 else some false)) = some true := by
  rw [QcT p.1 p.2 m4, QcT p.2 p.1 m4', QcT p.1 p.1 m4, Que p.2 p.1, QsB]
  simp
 simp only [d1, i1, d2, hs, d3, i3, d4, a1, QxF r2.2 n1, Option.bind_some, cond_false, k1, k2, k4]
 have k3 : (bif (!t.2) then some true else (bif (decide (t.1.Claim = y.2)) then some true else some false)) = some true := by
  cases h : t.2 with
  | false => rfl
  | true => rw [decide_eq_true (v3 h)]; rfl
 simp only [k3, w1, Option.bind_some]
 cases decide (1 ≤ r2.1) <;> cases decide (r2.1 ≤ 9) <;> cases s <;> cases decide (((r2.2.countP fun x => decide (x.Thing = 0) : Nat) : Int) = ln r2.2) <;> rfl
end Go.Proofs.YtncpklppoancgaaGreat
