import Derived.Test.YtcdffihcfeajfaaGreatFn
import Derived.Test.YtcdffihcfeajfaaGreatPl
namespace Go.Proofs.YtcdffihcfeajfaaGreat
open Go
set_option maxHeartbeats 4000000
set_option linter.unusedVariables false
set_option linter.unusedSimpArgs false
set_option linter.defProp false
set_option maxRecDepth 100000
theorem QCg {n : Nat} (h0 : (n : Int) ≤ 9223372036854775807) (h : decide (w64 (1048576 - (n : Int)) < 0) = false) : n ≤ 1048576 := by
 have := of_decide_eq_false h
 rw [Vd (by omega) (by omega)] at this; omega
theorem Qd8 {n b : Nat} (h : n ≤ 1048576) (hb : b ≤ 1024) : mkB (n : Int) b = true := by
 unfold mkB
 have h1 : n * b ≤ 1048576 * 1024 := Nat.mul_le_mul h hb
 have h2 := Int.ofNat_le.2 h1
 rw [Int.natCast_mul] at h2
 have h3 : (n : Int) * (b : Int) ≤ 140737488355328 := by omega
 simp only [h3, Int.natCast_nonneg, decide_true, Bool.and_self]
theorem V9 {n b : Nat} (h : n ≤ 2000000) (hb : b ≤ 1024) : rm n b = true := by
 unfold rm
 have h1 : n * b ≤ 2000000 * 1024 := Nat.mul_le_mul h hb
 have h3 : n * b ≤ 140737488355328 := by omega
 simp only [h3, decide_true]
theorem Qlz (a : Thing) : Qat a = some a := by first | rfl | (simp only [Qat, Option.bind_some]; done) | (simp only [Qat, Option.bind_some]; rfl)
theorem Qsj (a : Find) : Qbc a = some a := by first | rfl | (simp only [Qbc, Qlz, Option.bind_some]; done) | (simp only [Qbc, Qlz, Option.bind_some]; rfl)
theorem Qlp (a : List Find) (h : a.length ≤ 1048576) : Qbp a = some a := by
 have hr := QbA a (fun x => x) (⟨⟨0, 0, 0, 0, 0⟩, 0, 0, 0⟩ : Find) (step := JA a) (by omega) (fun i out hi ho => by
  simp only [JA, Qu hi, Qh hi, Qz hi, Qsj, Qh (show i < out.length by omega), Int.toNat_natCast, QS (show (i : Int) < 9223372036854775807 by omega), cond_true, Qa, Option.bind_some])
  (fun out => by simp only [JA, Qx (Nat.le_refl _), cond_false])
 unfold Qbp
 rw [Vf, Qd8 h (by omega), Int.toNat_natCast]
 simp only [Qa, hr, List.map_id', Option.bind_some]
theorem Qsa (a : Mark) : Qbd a = some a := by first | rfl | (simp only [Qbd, Option.bind_some]; done) | (simp only [Qbd, Option.bind_some]; rfl)
theorem QlI (a : List Mark) (h : a.length ≤ 1048576) : QbC a = some a := by
 have hr := QbA a (fun x => x) (⟨0, 0⟩ : Mark) (step := Jo a) (by omega) (fun i out hi ho => by
  simp only [Jo, Qu hi, Qh hi, Qz hi, Qsa, Qh (show i < out.length by omega), Int.toNat_natCast, QS (show (i : Int) < 9223372036854775807 by omega), cond_true, Qa, Option.bind_some])
  (fun out => by simp only [Jo, Qx (Nat.le_refl _), cond_false])
 unfold QbC
 rw [Vf, Qd8 h (by omega), Int.toNat_natCast]
 simp only [Qa, hr, List.map_id', Option.bind_some]
theorem QsW (a : Slot) : Qbh a = some a := by first | rfl | (simp only [Qbh, Option.bind_some]; done) | (simp only [Qbh, Option.bind_some]; rfl)
theorem Qks (a : List Slot) (h : a.length ≤ 1048576) : Qbq a = some a := by
 have hr := QbA a (fun x => x) (⟨0, 0, 0⟩ : Slot) (step := Jq a) (by omega) (fun i out hi ho => by
  simp only [Jq, Qu hi, Qh hi, Qz hi, QsW, Qh (show i < out.length by omega), Int.toNat_natCast, QS (show (i : Int) < 9223372036854775807 by omega), cond_true, Qa, Option.bind_some])
  (fun out => by simp only [Jq, Qx (Nat.le_refl _), cond_false])
 unfold Qbq
 rw [Vf, Qd8 h (by omega), Int.toNat_natCast]
 simp only [Qa, hr, List.map_id', Option.bind_some]
theorem Qqs (a : Claim) : QaC a = some a := by first | rfl | (simp only [QaC, Option.bind_some]; done) | (simp only [QaC, Option.bind_some]; rfl)
theorem QiQ (a : List Claim) (h : a.length ≤ 1048576) : QaM a = some a := by
 have hr := QbA a (fun x => x) (⟨0, 0, 0, 0, 0⟩ : Claim) (step := XZ a) (by omega) (fun i out hi ho => by
  simp only [XZ, Qu hi, Qh hi, Qz hi, Qqs, Qh (show i < out.length by omega), Int.toNat_natCast, QS (show (i : Int) < 9223372036854775807 by omega), cond_true, Qa, Option.bind_some])
  (fun out => by simp only [XZ, Qx (Nat.le_refl _), cond_false])
 unfold QaM
 rw [Vf, Qd8 h (by omega), Int.toNat_natCast]
 simp only [Qa, hr, List.map_id', Option.bind_some]
theorem QqE (a : Trial) : Qao a = some a := by first | rfl | (simp only [Qao, Option.bind_some]; done) | (simp only [Qao, Option.bind_some]; rfl)
theorem QiW (a : List Trial) (h : a.length ≤ 1048576) : QaR a = some a := by
 have hr := QbA a (fun x => x) (⟨0, 0, 0, 0⟩ : Trial) (step := X7 a) (by omega) (fun i out hi ho => by
  simp only [X7, Qu hi, Qh hi, Qz hi, QqE, Qh (show i < out.length by omega), Int.toNat_natCast, QS (show (i : Int) < 9223372036854775807 by omega), cond_true, Qa, Option.bind_some])
  (fun out => by simp only [X7, Qx (Nat.le_refl _), cond_false])
 unfold QaR
 rw [Vf, Qd8 h (by omega), Int.toNat_natCast]
 simp only [Qa, hr, List.map_id', Option.bind_some]
theorem QsF (a : Hand) : Qbe a = some a := by first | rfl | (simp only [Qbe, Option.bind_some]; done) | (simp only [Qbe, Option.bind_some]; rfl)
theorem Qk9 (a : List Hand) (h : a.length ≤ 1048576) : QbD a = some a := by
 have hr := QbA a (fun x => x) (⟨0, 0, 0, 0, 0⟩ : Hand) (step := Jw a) (by omega) (fun i out hi ho => by
  simp only [Jw, Qu hi, Qh hi, Qz hi, QsF, Qh (show i < out.length by omega), Int.toNat_natCast, QS (show (i : Int) < 9223372036854775807 by omega), cond_true, Qa, Option.bind_some])
  (fun out => by simp only [Jw, Qx (Nat.le_refl _), cond_false])
 unfold QbD
 rw [Vf, Qd8 h (by omega), Int.toNat_natCast]
 simp only [Qa, hr, List.map_id', Option.bind_some]
theorem Qqv (a : Entry) : Qar a = some a := by first | rfl | (simp only [Qar, Option.bind_some]; done) | (simp only [Qar, Option.bind_some]; rfl)
theorem QiR (a : List Entry) (h : a.length ≤ 1048576) : QaJ a = some a := by
 have hr := QbA a (fun x => x) (⟨0, 0, 0, 0⟩ : Entry) (step := Jb a) (by omega) (fun i out hi ho => by
  simp only [Jb, Qu hi, Qh hi, Qz hi, Qqv, Qh (show i < out.length by omega), Int.toNat_natCast, QS (show (i : Int) < 9223372036854775807 by omega), cond_true, Qa, Option.bind_some])
  (fun out => by simp only [Jb, Qx (Nat.le_refl _), cond_false])
 unfold QaJ
 rw [Vf, Qd8 h (by omega), Int.toNat_natCast]
 simp only [Qa, hr, List.map_id', Option.bind_some]
theorem Qs9 (a : Bid) : Qcg a = some a := by first | rfl | (simp only [Qcg, Option.bind_some]; done) | (simp only [Qcg, Option.bind_some]; rfl)
theorem Qss (a : List Bid) (h : a.length ≤ 1048576) : Zk a = some a := by
 have hr := QbA a (fun x => x) (⟨0, 0, 0⟩ : Bid) (step := Zg a) (by omega) (fun i out hi ho => by
  simp only [Zg, Qu hi, Qh hi, Qz hi, Qs9, Qh (show i < out.length by omega), Int.toNat_natCast, QS (show (i : Int) < 9223372036854775807 by omega), cond_true, Qa, Option.bind_some])
  (fun out => by simp only [Zg, Qx (Nat.le_refl _), cond_false])
 unfold Zk
 rw [Vf, Qd8 h (by omega), Int.toNat_natCast]
 simp only [Qa, hr, List.map_id', Option.bind_some]
theorem QnX (a : Thing) : Qb2 a a = some true := by simp [Qb2]
theorem Qoo (a : Find) : QcD a a = some true := by simp [QcD, QnX]
theorem Qns (a : List Find) (h : a.length ≤ 1048576) : QbN a a = some true := by
 have hr := Qbz a (step := Jp a a) (fun i (_ : Unit) => (i : Int)) (fun _ _ _ => some (.inl ())) (fun _ => some (.brk ())) ()
  (fun i s hi => by simp only [Jp, Qu hi, Qh hi, Qz hi, Qoo, QS (show (i : Int) < 9223372036854775807 by omega), cond_true, cond_false, Qa, Option.bind_some, Bool.not_true, Option.map_some, Sum.map_inl, decide_true])
  (fun s => by simp only [Jp, Qx (Nat.le_refl _), cond_false, Option.map_some])
 rw [JO (g := fun _ _ => ()) a 0 () (fun _ _ _ _ => rfl)] at hr
 unfold QbN
 simp only [decide_true, Bool.not_true, cond_false]
 rw [show ((0 : Int)) = ((0 : Nat) : Int) from rfl, hr]
 rfl
theorem Qo4 (a : Mark) : Qcv a a = some true := by simp [Qcv]
theorem Qm2 (a : List Mark) (h : a.length ≤ 1048576) : QbP a a = some true := by
 have hr := Qbz a (step := Jv a a) (fun i (_ : Unit) => (i : Int)) (fun _ _ _ => some (.inl ())) (fun _ => some (.brk ())) ()
  (fun i s hi => by simp only [Jv, Qu hi, Qh hi, Qz hi, Qo4, QS (show (i : Int) < 9223372036854775807 by omega), cond_true, cond_false, Qa, Option.bind_some, Bool.not_true, Option.map_some, Sum.map_inl, decide_true])
  (fun s => by simp only [Jv, Qx (Nat.le_refl _), cond_false, Option.map_some])
 rw [JO (g := fun _ _ => ()) a 0 () (fun _ _ _ _ => rfl)] at hr
 unfold QbP
 simp only [decide_true, Bool.not_true, cond_false]
 rw [show ((0 : Int)) = ((0 : Nat) : Int) from rfl, hr]
 rfl
theorem Qo7 (a : Slot) : Qcr a a = some true := by simp [Qcr]
theorem Qnx (a : List Slot) (h : a.length ≤ 1048576) : Qbt a a = some true := by
 have hr := Qbz a (step := Jt a a) (fun i (_ : Unit) => (i : Int)) (fun _ _ _ => some (.inl ())) (fun _ => some (.brk ())) ()
  (fun i s hi => by simp only [Jt, Qu hi, Qh hi, Qz hi, Qo7, QS (show (i : Int) < 9223372036854775807 by omega), cond_true, cond_false, Qa, Option.bind_some, Bool.not_true, Option.map_some, Sum.map_inl, decide_true])
  (fun s => by simp only [Jt, Qx (Nat.le_refl _), cond_false, Option.map_some])
 rw [JO (g := fun _ _ => ()) a 0 () (fun _ _ _ _ => rfl)] at hr
 unfold Qbt
 simp only [decide_true, Bool.not_true, cond_false]
 rw [show ((0 : Int)) = ((0 : Nat) : Int) from rfl, hr]
 rfl
theorem QnP (a : Claim) : QbK a a = some true := by simp [QbK]
theorem QlX (a : List Claim) (h : a.length ≤ 1048576) : QaT a a = some true := by
 have hr := Qbz a (step := Je a a) (fun i (_ : Unit) => (i : Int)) (fun _ _ _ => some (.inl ())) (fun _ => some (.brk ())) ()
  (fun i s hi => by simp only [Je, Qu hi, Qh hi, Qz hi, QnP, QS (show (i : Int) < 9223372036854775807 by omega), cond_true, cond_false, Qa, Option.bind_some, Bool.not_true, Option.map_some, Sum.map_inl, decide_true])
  (fun s => by simp only [Je, Qx (Nat.le_refl _), cond_false, Option.map_some])
 rw [JO (g := fun _ _ => ()) a 0 () (fun _ _ _ _ => rfl)] at hr
 unfold QaT
 simp only [decide_true, Bool.not_true, cond_false]
 rw [show ((0 : Int)) = ((0 : Nat) : Int) from rfl, hr]
 rfl
theorem QnM (a : Trial) : Qbw a a = some true := by simp [Qbw]
theorem QlW (a : List Trial) (h : a.length ≤ 1048576) : QaK a a = some true := by
 have hr := Qbz a (step := X4 a a) (fun i (_ : Unit) => (i : Int)) (fun _ _ _ => some (.inl ())) (fun _ => some (.brk ())) ()
  (fun i s hi => by simp only [X4, Qu hi, Qh hi, Qz hi, QnM, QS (show (i : Int) < 9223372036854775807 by omega), cond_true, cond_false, Qa, Option.bind_some, Bool.not_true, Option.map_some, Sum.map_inl, decide_true])
  (fun s => by simp only [X4, Qx (Nat.le_refl _), cond_false, Option.map_some])
 rw [JO (g := fun _ _ => ()) a 0 () (fun _ _ _ _ => rfl)] at hr
 unfold QaK
 simp only [decide_true, Bool.not_true, cond_false]
 rw [show ((0 : Int)) = ((0 : Nat) : Int) from rfl, hr]
 rfl
theorem Qoi (a : Hand) : Qcw a a = some true := by simp [Qcw]
theorem Qn4 (a : List Hand) (h : a.length ≤ 1048576) : Qb0 a a = some true := by
 have hr := Qbz a (step := JB a a) (fun i (_ : Unit) => (i : Int)) (fun _ _ _ => some (.inl ())) (fun _ => some (.brk ())) ()
  (fun i s hi => by simp only [JB, Qu hi, Qh hi, Qz hi, Qoi, QS (show (i : Int) < 9223372036854775807 by omega), cond_true, cond_false, Qa, Option.bind_some, Bool.not_true, Option.map_some, Sum.map_inl, decide_true])
  (fun s => by simp only [JB, Qx (Nat.le_refl _), cond_false, Option.map_some])
 rw [JO (g := fun _ _ => ()) a 0 () (fun _ _ _ _ => rfl)] at hr
 unfold Qb0
 simp only [decide_true, Bool.not_true, cond_false]
 rw [show ((0 : Int)) = ((0 : Nat) : Int) from rfl, hr]
 rfl
theorem QnW (a : Entry) : Qbv a a = some true := by simp [Qbv]
theorem Qmj (a : List Entry) (h : a.length ≤ 1048576) : QaN a a = some true := by
 have hr := Qbz a (step := X0 a a) (fun i (_ : Unit) => (i : Int)) (fun _ _ _ => some (.inl ())) (fun _ => some (.brk ())) ()
  (fun i s hi => by simp only [X0, Qu hi, Qh hi, Qz hi, QnW, QS (show (i : Int) < 9223372036854775807 by omega), cond_true, cond_false, Qa, Option.bind_some, Bool.not_true, Option.map_some, Sum.map_inl, decide_true])
  (fun s => by simp only [X0, Qx (Nat.le_refl _), cond_false, Option.map_some])
 rw [JO (g := fun _ _ => ()) a 0 () (fun _ _ _ _ => rfl)] at hr
 unfold QaN
 simp only [decide_true, Bool.not_true, cond_false]
 rw [show ((0 : Int)) = ((0 : Nat) : Int) from rfl, hr]
 rfl
theorem QqH (a : Bid) : Qc0 a a = some true := by simp [Qc0]
theorem Qo3 (a : List Bid) (h : a.length ≤ 1048576) : Qcx a a = some true := by
 have hr := Qbz a (step := J7 a a) (fun i (_ : Unit) => (i : Int)) (fun _ _ _ => some (.inl ())) (fun _ => some (.brk ())) ()
  (fun i s hi => by simp only [J7, Qu hi, Qh hi, Qz hi, QqH, QS (show (i : Int) < 9223372036854775807 by omega), cond_true, cond_false, Qa, Option.bind_some, Bool.not_true, Option.map_some, Sum.map_inl, decide_true])
  (fun s => by simp only [J7, Qx (Nat.le_refl _), cond_false, Option.map_some])
 rw [JO (g := fun _ _ => ()) a 0 () (fun _ _ _ _ => rfl)] at hr
 unfold Qcx
 simp only [decide_true, Bool.not_true, cond_false]
 rw [show ((0 : Int)) = ((0 : Nat) : Int) from rfl, hr]
 rfl
def smL {α : Type} (ok : α → Prop) (l : List α) : Prop := l.length ≤ 1048576 ∧ ∀ x ∈ l, ok x
theorem Qdu {n : Nat} {left : Int} (hn : (n : Int) ≤ 9223372036854775807) (h0 : 0 ≤ left) (h1 : left ≤ 1048576) :
  ∃ r, (bif (decide (w64 (left - (n : Int)) < 0)) then some (-1) else some (w64 (left - (n : Int)))) = some r ∧ r ≤ left ∧ (r = -1 ∨ (0 ≤ r ∧ n ≤ 1048576)) := by
 rw [Vd (by omega) (by omega)]
 by_cases h : left - (n : Int) < 0
 ·exact ⟨-1, by rw [decide_eq_true h]; rfl, by omega, .inl rfl⟩
 ·exact ⟨left - n, by rw [decide_eq_false h]; rfl, by omega, .inr ⟨by omega, by omega⟩⟩
theorem QzB {α : Type} {l : List α} {sm : α → Prop} {sz : α → Int → Option Int} {step : (Int × Int) → Option ((Int × Int) ⊕ (Fl Int Int))}
  (hsz : ∀ x ∈ l, ∀ left, 0 ≤ left → left ≤ 1048576 → ∃ r, sz x left = some r ∧ r ≤ left ∧ (r = -1 ∨ (0 ≤ r ∧ sm x)))
  (h1 : ∀ (i : Nat) (left : Int) (h : i < l.length), step (left, (i : Int)) = (sz l[i] left).bind fun r => (bif (decide (r < 0)) then some (.inr (.ret (-1))) else some (.inl (r, ((i + 1 : Nat) : Int)))))
  (h2 : ∀ left, step (left, (l.length : Int)) = some (.inr (.brk left))) :
  ∀ (m i : Nat) (left : Int), i + m = l.length → 0 ≤ left → left ≤ 1048576 → ∃ c, run step (left, (i : Int)) = some c ∧ (c = .ret (-1) ∨ ∃ r, c = .brk r ∧ 0 ≤ r ∧ r ≤ left ∧ ∀ x ∈ l.drop i, sm x) := by
 intro m
 induction m with
 | zero =>
  intro i left hi g0 g1
  have : i = l.length := by omega
  subst this
  exact ⟨.brk left, by rw [Qs, h2]; rfl, .inr ⟨left, rfl, g0, Int.le_refl _, by simp⟩⟩
 | succ m ih =>
  intro i left hi g0 g1
  have hlt : i < l.length := by omega
  obtain ⟨r, e, hr, h | ⟨h, hs⟩⟩ := hsz l[i] (List.getElem_mem hlt) left g0 g1
  ·subst h
   exact ⟨.ret (-1), by rw [Qs, h1 i left hlt, e]; rfl, .inl rfl⟩
  ·obtain ⟨c, e2, h2⟩ := ih (i + 1) r (by omega) h (by omega)
   have hd : decide (r < 0) = false := decide_eq_false (by omega)
   refine ⟨c, by rw [Qs, h1 i left hlt, e]; simp only [Option.bind_some, hd, cond_false]; exact e2, ?_⟩
   rcases h2 with h2 | ⟨r', h2, h3, h4, h5⟩
   ·exact .inl h2
   ·refine .inr ⟨r', h2, h3, by omega, fun x hx => ?_⟩
    rw [List.drop_eq_getElem_cons hlt] at hx
    rcases List.mem_cons.1 hx with rfl | hx
    ·exact hs
    ·exact h5 x hx
theorem QqL (a : List Find) (left : Int) (ha : a.length ≤ 9223372036854775807) (h0 : 0 ≤ left) (h1 : left ≤ 1048576) : ∃ r, QbW a left = some r ∧ r ≤ left ∧ (r = -1 ∨ (0 ≤ r ∧ a.length ≤ 1048576)) := by
 unfold QbW; rw [Vf]; exact Qdu (by omega) h0 h1
theorem QqN (a : List Mark) (left : Int) (ha : a.length ≤ 9223372036854775807) (h0 : 0 ≤ left) (h1 : left ≤ 1048576) : ∃ r, QbE a left = some r ∧ r ≤ left ∧ (r = -1 ∨ (0 ≤ r ∧ a.length ≤ 1048576)) := by
 unfold QbE; rw [Vf]; exact Qdu (by omega) h0 h1
def Xl (x : Secret) : Prop := x.Marks.length ≤ 1048576
theorem Qoz (a : Secret) (left : Int) (ha : QeZ a) (h0 : 0 ≤ left) (h1 : left ≤ 1048576) : ∃ r, ZT a left = some r ∧ r ≤ left ∧ (r = -1 ∨ (0 ≤ r ∧ Xl a)) := by
 obtain ⟨q0, q1, q2⟩ := ha
 unfold ZT
 obtain ⟨r1, e1, l1, h | ⟨p1, s1⟩⟩ := QqN a.Marks left q1.1 h0 (by omega)
 ·subst h; exact ⟨-1, by simp only [e1, Option.bind_some, cond_false]; rfl, by omega, .inl rfl⟩
 exact ⟨r1, by simp only [e1, decide_eq_false (show ¬ r1 < 0 by omega), Option.bind_some, cond_false], by omega, .inr ⟨p1, s1⟩⟩
theorem QnD (a : List Secret) (left : Int) (ha : (okL QeZ) a) (h0 : 0 ≤ left) (h1 : left ≤ 1048576) : ∃ r, Qac a left = some r ∧ r ≤ left ∧ (r = -1 ∨ (0 ≤ r ∧ smL Xl a)) := by
 have hl := ha.1
 unfold Qac
 rw [Vf, Vd (by omega) (by omega)]
 by_cases h : left - (a.length : Int) < 0
 ·exact ⟨-1, by rw [decide_eq_true h]; rfl, by omega, .inl rfl⟩
 rw [decide_eq_false h]
 obtain ⟨c, e, hc⟩ := QzB (l := a) (sm := Xl) (sz := ZT) (step := Xm a) (fun x hx left g0 g1 => Qoz x left (ha.2 x hx) g0 g1)
  (fun i left hi => by simp only [Xm, Qu hi, Qh hi, Qz hi, QS (show (i : Int) < 9223372036854775807 by omega), cond_true, Qa])
  (fun left => by simp only [Xm, Qx (Nat.le_refl _), cond_false]) a.length 0 (left - a.length) (by omega) (by omega) (by omega)
 rcases hc with rfl | ⟨r, rfl, g0, g1, g2⟩
 ·exact ⟨-1, by simp only [cond_false]; rw [show (0 : Int) = ((0 : Nat) : Int) from rfl, e]; rfl, by omega, .inl rfl⟩
 ·exact ⟨r, by simp only [cond_false]; rw [show (0 : Int) = ((0 : Nat) : Int) from rfl, e]; rfl, by omega, .inr ⟨g0, by omega, by simpa using g2⟩⟩
theorem QqT (a : List Slot) (left : Int) (ha : a.length ≤ 9223372036854775807) (h0 : 0 ≤ left) (h1 : left ≤ 1048576) : ∃ r, QbI a left = some r ∧ r ≤ left ∧ (r = -1 ∨ (0 ≤ r ∧ a.length ≤ 1048576)) := by
 unfold QbI; rw [Vf]; exact Qdu (by omega) h0 h1
theorem QoB (a : List Claim) (left : Int) (ha : a.length ≤ 9223372036854775807) (h0 : 0 ≤ left) (h1 : left ≤ 1048576) : ∃ r, QaW a left = some r ∧ r ≤ left ∧ (r = -1 ∨ (0 ≤ r ∧ a.length ≤ 1048576)) := by
 unfold QaW; rw [Vf]; exact Qdu (by omega) h0 h1
theorem Qpu (a : List Trial) (left : Int) (ha : a.length ≤ 9223372036854775807) (h0 : 0 ≤ left) (h1 : left ≤ 1048576) : ∃ r, QaX a left = some r ∧ r ≤ left ∧ (r = -1 ∨ (0 ≤ r ∧ a.length ≤ 1048576)) := by
 unfold QaX; rw [Vf]; exact Qdu (by omega) h0 h1
theorem Qp7 (a : List Hand) (left : Int) (ha : a.length ≤ 9223372036854775807) (h0 : 0 ≤ left) (h1 : left ≤ 1048576) : ∃ r, QbB a left = some r ∧ r ≤ left ∧ (r = -1 ∨ (0 ≤ r ∧ a.length ≤ 1048576)) := by
 unfold QbB; rw [Vf]; exact Qdu (by omega) h0 h1
theorem Qpi (a : List Entry) (left : Int) (ha : a.length ≤ 9223372036854775807) (h0 : 0 ≤ left) (h1 : left ≤ 1048576) : ∃ r, QaU a left = some r ∧ r ≤ left ∧ (r = -1 ∨ (0 ≤ r ∧ a.length ≤ 1048576)) := by
 unfold QaU; rw [Vf]; exact Qdu (by omega) h0 h1
def QZ (x : House) : Prop := x.Finds.length ≤ 1048576 ∧ smL Xl x.Secrets ∧ x.Slots.length ≤ 1048576 ∧ x.Claims.length ≤ 1048576 ∧ x.Trials.length ≤ 1048576 ∧ x.Chain.length ≤ 1048576 ∧ x.Book.length ≤ 1048576
theorem Qqw (a : House) (left : Int) (ha : QjJ a) (h0 : 0 ≤ left) (h1 : left ≤ 1048576) : ∃ r, Qbu a left = some r ∧ r ≤ left ∧ (r = -1 ∨ (0 ≤ r ∧ QZ a)) := by
 obtain ⟨q0, q1, q2, q3, q4, q5, q6, q7, q8⟩ := ha
 unfold Qbu
 obtain ⟨r1, e1, l1, h | ⟨p1, s1⟩⟩ := QqL a.Finds left q1.1 h0 (by omega)
 ·subst h; exact ⟨-1, by simp only [e1, Option.bind_some, cond_false]; rfl, by omega, .inl rfl⟩
 obtain ⟨r2, e2, l2, h | ⟨p2, s2⟩⟩ := QnD a.Secrets r1 q2 p1 (by omega)
 ·subst h; exact ⟨-1, by simp only [e1, e2, decide_eq_false (show ¬ r1 < 0 by omega), Option.bind_some, cond_false]; rfl, by omega, .inl rfl⟩
 obtain ⟨r3, e3, l3, h | ⟨p3, s3⟩⟩ := QqT a.Slots r2 q3.1 p2 (by omega)
 ·subst h; exact ⟨-1, by simp only [e1, e2, e3, decide_eq_false (show ¬ r1 < 0 by omega), decide_eq_false (show ¬ r2 < 0 by omega), Option.bind_some, cond_false]; rfl, by omega, .inl rfl⟩
 obtain ⟨r4, e4, l4, h | ⟨p4, s4⟩⟩ := QoB a.Claims r3 q4.1 p3 (by omega)
 ·subst h; exact ⟨-1, by simp only [e1, e2, e3, e4, decide_eq_false (show ¬ r1 < 0 by omega), decide_eq_false (show ¬ r2 < 0 by omega), decide_eq_false (show ¬ r3 < 0 by omega), Option.bind_some, cond_false]; rfl, by omega, .inl rfl⟩
 obtain ⟨r5, e5, l5, h | ⟨p5, s5⟩⟩ := Qpu a.Trials r4 q5.1 p4 (by omega)
 ·subst h; exact ⟨-1, by simp only [e1, e2, e3, e4, e5, decide_eq_false (show ¬ r1 < 0 by omega), decide_eq_false (show ¬ r2 < 0 by omega), decide_eq_false (show ¬ r3 < 0 by omega), decide_eq_false (show ¬ r4 < 0 by omega), Option.bind_some, cond_false]; rfl, by omega, .inl rfl⟩
 obtain ⟨r6, e6, l6, h | ⟨p6, s6⟩⟩ := Qp7 a.Chain r5 q6.1 p5 (by omega)
 ·subst h; exact ⟨-1, by simp only [e1, e2, e3, e4, e5, e6, decide_eq_false (show ¬ r1 < 0 by omega), decide_eq_false (show ¬ r2 < 0 by omega), decide_eq_false (show ¬ r3 < 0 by omega), decide_eq_false (show ¬ r4 < 0 by omega), decide_eq_false (show ¬ r5 < 0 by omega), Option.bind_some, cond_false]; rfl, by omega, .inl rfl⟩
 obtain ⟨r7, e7, l7, h | ⟨p7, s7⟩⟩ := Qpi a.Book r6 q7.1 p6 (by omega)
 ·subst h; exact ⟨-1, by simp only [e1, e2, e3, e4, e5, e6, e7, decide_eq_false (show ¬ r1 < 0 by omega), decide_eq_false (show ¬ r2 < 0 by omega), decide_eq_false (show ¬ r3 < 0 by omega), decide_eq_false (show ¬ r4 < 0 by omega), decide_eq_false (show ¬ r5 < 0 by omega), decide_eq_false (show ¬ r6 < 0 by omega), Option.bind_some, cond_false]; rfl, by omega, .inl rfl⟩
 exact ⟨r7, by simp only [e1, e2, e3, e4, e5, e6, e7, decide_eq_false (show ¬ r1 < 0 by omega), decide_eq_false (show ¬ r2 < 0 by omega), decide_eq_false (show ¬ r3 < 0 by omega), decide_eq_false (show ¬ r4 < 0 by omega), decide_eq_false (show ¬ r5 < 0 by omega), decide_eq_false (show ¬ r6 < 0 by omega), decide_eq_false (show ¬ r7 < 0 by omega), Option.bind_some, cond_false], by omega, .inr ⟨p7, ⟨s1, s2, s3, s4, s5, s6, s7⟩⟩⟩
theorem Qsq (a : List Bid) (left : Int) (ha : a.length ≤ 9223372036854775807) (h0 : 0 ≤ left) (h1 : left ≤ 1048576) : ∃ r, Qcu a left = some r ∧ r ≤ left ∧ (r = -1 ∨ (0 ≤ r ∧ a.length ≤ 1048576)) := by
 unfold Qcu; rw [Vf]; exact Qdu (by omega) h0 h1
theorem Qpb (a : Secret) (h : Xl a) : ZX a = some a := by
 unfold Xl at h
 have s1 := h
 first | (simp only [ZX, QlI _ s1, Option.bind_some]; done) | (simp only [ZX, QlI _ s1, Option.bind_some]; rfl)
theorem QhX (a : List Secret) (h : smL Xl a) : Qak a = some a := by
 have hl := h.1
 have hr := QbA a (fun x => x) (⟨0, [], 0⟩ : Secret) (step := Xq a) (by omega) (fun i out hi ho => by
  simp only [Xq, Qu hi, Qh hi, Qz hi, Qpb _ (h.2 _ (List.getElem_mem hi)), Qh (show i < out.length by omega), Int.toNat_natCast, QS (show (i : Int) < 9223372036854775807 by omega), cond_true, Qa, Option.bind_some])
  (fun out => by simp only [Xq, Qx (Nat.le_refl _), cond_false])
 unfold Qak
 rw [Vf, Qd8 hl (by omega), Int.toNat_natCast]
 simp only [Qa, hr, List.map_id', Option.bind_some]
theorem QqG (a : House) (h : QZ a) : XS a = some a := by
 unfold QZ at h
 obtain ⟨s1, s2, s3, s4, s5, s6, s7⟩ := h
 first | (simp only [XS, Qlp _ s1, QhX _ s2, Qks _ s3, QiQ _ s4, QiW _ s5, Qk9 _ s6, QiR _ s7, Option.bind_some]; done) | (simp only [XS, Qlp _ s1, QhX _ s2, Qks _ s3, QiQ _ s4, QiW _ s5, Qk9 _ s6, QiR _ s7, Option.bind_some]; rfl)
theorem Ql3 (a : Secret) (h : Xl a) : QaO a a = some true := by
 unfold Xl at h
 have s1 := h
 simp [QaO, Qm2 _ s1]
theorem Qj8 (a : List Secret) (h : smL Xl a) : Z6 a a = some true := by
 have hl := h.1
 have hr := Qbz a (step := Xp a a) (fun i (_ : Unit) => (i : Int)) (fun _ _ _ => some (.inl ())) (fun _ => some (.brk ())) ()
  (fun i s hi => by simp only [Xp, Qu hi, Qh hi, Qz hi, Ql3 _ (h.2 _ (List.getElem_mem hi)), QS (show (i : Int) < 9223372036854775807 by omega), cond_true, cond_false, Qa, Option.bind_some, Bool.not_true, Option.map_some, Sum.map_inl, decide_true])
  (fun s => by simp only [Xp, Qx (Nat.le_refl _), cond_false, Option.map_some])
 rw [JO (g := fun _ _ => ()) a 0 () (fun _ _ _ _ => rfl)] at hr
 unfold Z6
 simp only [decide_true, Bool.not_true, cond_false]
 rw [show ((0 : Int)) = ((0 : Nat) : Int) from rfl, hr]
 rfl
theorem Qhq (a : House) (h : QZ a) : JI a a = some true := by
 unfold QZ at h
 obtain ⟨s1, s2, s3, s4, s5, s6, s7⟩ := h
 simp [JI, Qns _ s1, Qj8 _ s2, Qnx _ s3, QlX _ s4, QlW _ s5, Qn4 _ s6, Qmj _ s7]
end Go.Proofs.YtcdffihcfeajfaaGreat
