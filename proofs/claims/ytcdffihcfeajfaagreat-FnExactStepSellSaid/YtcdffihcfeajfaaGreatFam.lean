import Derived.Test.YtcdffihcfeajfaaGreatFn
import Derived.Test.YtcdffihcfeajfaaGreatPl
namespace Go.Proofs.YtcdffihcfeajfaaGreat
open Go
set_option maxHeartbeats 4000000
set_option linter.unusedVariables false
set_option linter.unusedSimpArgs false
set_option linter.defProp false
set_option maxRecDepth 100000
theorem QDg {n : Nat} (h0 : (n : Int) ≤ 9223372036854775807) (h : decide (w64 (1048576 - (n : Int)) < 0) = false) : n ≤ 1048576 := by
 have := of_decide_eq_false h
 rw [Vd (by omega) (by omega)] at this; omega
theorem Qd5 {n b : Nat} (h : n ≤ 1048576) (hb : b ≤ 1024) : mkB (n : Int) b = true := by
 unfold mkB
 have h1 : n * b ≤ 1048576 * 1024 := Nat.mul_le_mul h hb
 have h2 := Int.ofNat_le.2 h1
 rw [Int.natCast_mul] at h2
 have h3 : (n : Int) * (b : Int) ≤ 140737488355328 := by omega
 simp only [h3, Int.natCast_nonneg, decide_true, Bool.and_self]
theorem V9 {n b : Nat} (h : n ≤ 2000000) (hb : b ≤ 1024) : rm n b = true := by
 unfold rm
 have h1 : n * b ≤ 2000000 * 1024 := Nat.mul_le_mul h hb
 have h3 : n * b ≤ 140737488355328 := by omega
 simp only [h3, decide_true]
theorem Qk5 (a : Thing) : QaC a = some a := by first | rfl | (simp only [QaC, Option.bind_some]; done) | (simp only [QaC, Option.bind_some]; rfl)
theorem Qr0 (a : Find) : Qbk a = some a := by first | rfl | (simp only [Qbk, Qk5, Option.bind_some]; done) | (simp only [Qbk, Qk5, Option.bind_some]; rfl)
theorem Qj3 (a : List Find) (h : a.length ≤ 1048576) : QbH a = some a := by
 have hr := QbC a (fun x => x) (⟨⟨0, 0, 0, 0, 0⟩, 0, 0, 0⟩ : Find) (step := Jp a) (by omega) (fun i out hi ho => by
  simp only [Jp, Qu hi, Qg hi, Qz hi, Qr0, Qg (show i < out.length by omega), Int.toNat_natCast, QP (show (i : Int) < 9223372036854775807 by omega), cond_true, Qa, Option.bind_some])
  (fun out => by simp only [Jp, Qx (Nat.le_refl _), cond_false])
 unfold QbH
 rw [Vg, Qd5 h (by omega), Int.toNat_natCast]
 simp only [Qa, hr, List.map_id', Option.bind_some]
theorem Qse (a : Mark) : Qbc a = some a := by first | rfl | (simp only [Qbc, Option.bind_some]; done) | (simp only [Qbc, Option.bind_some]; rfl)
theorem Qks (a : List Mark) (h : a.length ≤ 1048576) : Qbs a = some a := by
 have hr := QbC a (fun x => x) (⟨0, 0⟩ : Mark) (step := Ju a) (by omega) (fun i out hi ho => by
  simp only [Ju, Qu hi, Qg hi, Qz hi, Qse, Qg (show i < out.length by omega), Int.toNat_natCast, QP (show (i : Int) < 9223372036854775807 by omega), cond_true, Qa, Option.bind_some])
  (fun out => by simp only [Ju, Qx (Nat.le_refl _), cond_false])
 unfold Qbs
 rw [Vg, Qd5 h (by omega), Int.toNat_natCast]
 simp only [Qa, hr, List.map_id', Option.bind_some]
theorem Qsk (a : Slot) : Qbi a = some a := by first | rfl | (simp only [Qbi, Option.bind_some]; done) | (simp only [Qbi, Option.bind_some]; rfl)
theorem QkA (a : List Slot) (h : a.length ≤ 1048576) : QbW a = some a := by
 have hr := QbC a (fun x => x) (⟨0, 0, 0⟩ : Slot) (step := Js a) (by omega) (fun i out hi ho => by
  simp only [Js, Qu hi, Qg hi, Qz hi, Qsk, Qg (show i < out.length by omega), Int.toNat_natCast, QP (show (i : Int) < 9223372036854775807 by omega), cond_true, Qa, Option.bind_some])
  (fun out => by simp only [Js, Qx (Nat.le_refl _), cond_false])
 unfold QbW
 rw [Vg, Qd5 h (by omega), Int.toNat_natCast]
 simp only [Qa, hr, List.map_id', Option.bind_some]
theorem QqA (a : Claim) : Qaz a = some a := by first | rfl | (simp only [Qaz, Option.bind_some]; done) | (simp only [Qaz, Option.bind_some]; rfl)
theorem Qi3 (a : List Claim) (h : a.length ≤ 1048576) : QaX a = some a := by
 have hr := QbC a (fun x => x) (⟨0, 0, 0, 0, 0⟩ : Claim) (step := X9 a) (by omega) (fun i out hi ho => by
  simp only [X9, Qu hi, Qg hi, Qz hi, QqA, Qg (show i < out.length by omega), Int.toNat_natCast, QP (show (i : Int) < 9223372036854775807 by omega), cond_true, Qa, Option.bind_some])
  (fun out => by simp only [X9, Qx (Nat.le_refl _), cond_false])
 unfold QaX
 rw [Vg, Qd5 h (by omega), Int.toNat_natCast]
 simp only [Qa, hr, List.map_id', Option.bind_some]
theorem QpO (a : Trial) : Qas a = some a := by first | rfl | (simp only [Qas, Option.bind_some]; done) | (simp only [Qas, Option.bind_some]; rfl)
theorem QiV (a : List Trial) (h : a.length ≤ 1048576) : QaQ a = some a := by
 have hr := QbC a (fun x => x) (⟨0, 0, 0, 0⟩ : Trial) (step := XZ a) (by omega) (fun i out hi ho => by
  simp only [XZ, Qu hi, Qg hi, Qz hi, QpO, Qg (show i < out.length by omega), Int.toNat_natCast, QP (show (i : Int) < 9223372036854775807 by omega), cond_true, Qa, Option.bind_some])
  (fun out => by simp only [XZ, Qx (Nat.le_refl _), cond_false])
 unfold QaQ
 rw [Vg, Qd5 h (by omega), Int.toNat_natCast]
 simp only [Qa, hr, List.map_id', Option.bind_some]
theorem Qsi (a : Hand) : Qbj a = some a := by first | rfl | (simp only [Qbj, Option.bind_some]; done) | (simp only [Qbj, Option.bind_some]; rfl)
theorem QlO (a : List Hand) (h : a.length ≤ 1048576) : QbY a = some a := by
 have hr := QbC a (fun x => x) (⟨0, 0, 0, 0, 0⟩ : Hand) (step := Jw a) (by omega) (fun i out hi ho => by
  simp only [Jw, Qu hi, Qg hi, Qz hi, Qsi, Qg (show i < out.length by omega), Int.toNat_natCast, QP (show (i : Int) < 9223372036854775807 by omega), cond_true, Qa, Option.bind_some])
  (fun out => by simp only [Jw, Qx (Nat.le_refl _), cond_false])
 unfold QbY
 rw [Vg, Qd5 h (by omega), Int.toNat_natCast]
 simp only [Qa, hr, List.map_id', Option.bind_some]
theorem Qql (a : Entry) : Qax a = some a := by first | rfl | (simp only [Qax, Option.bind_some]; done) | (simp only [Qax, Option.bind_some]; rfl)
theorem QiU (a : List Entry) (h : a.length ≤ 1048576) : QaJ a = some a := by
 have hr := QbC a (fun x => x) (⟨0, 0, 0, 0⟩ : Entry) (step := Jf a) (by omega) (fun i out hi ho => by
  simp only [Jf, Qu hi, Qg hi, Qz hi, Qql, Qg (show i < out.length by omega), Int.toNat_natCast, QP (show (i : Int) < 9223372036854775807 by omega), cond_true, Qa, Option.bind_some])
  (fun out => by simp only [Jf, Qx (Nat.le_refl _), cond_false])
 unfold QaJ
 rw [Vg, Qd5 h (by omega), Int.toNat_natCast]
 simp only [Qa, hr, List.map_id', Option.bind_some]
theorem QuC (a : Bid) : Qce a = some a := by first | rfl | (simp only [Qce, Option.bind_some]; done) | (simp only [Qce, Option.bind_some]; rfl)
theorem QsV (a : List Bid) (h : a.length ≤ 1048576) : Zk a = some a := by
 have hr := QbC a (fun x => x) (⟨0, 0, 0⟩ : Bid) (step := J8 a) (by omega) (fun i out hi ho => by
  simp only [J8, Qu hi, Qg hi, Qz hi, QuC, Qg (show i < out.length by omega), Int.toNat_natCast, QP (show (i : Int) < 9223372036854775807 by omega), cond_true, Qa, Option.bind_some])
  (fun out => by simp only [J8, Qx (Nat.le_refl _), cond_false])
 unfold Zk
 rw [Vg, Qd5 h (by omega), Int.toNat_natCast]
 simp only [Qa, hr, List.map_id', Option.bind_some]
theorem Qnt (a : Thing) : QbE a a = some true := by simp [QbE]
theorem QpB (a : Find) : Qcq a a = some true := by simp [Qcq, Qnt]
theorem QnK (a : List Find) (h : a.length ≤ 1048576) : QbG a a = some true := by
 have hr := QbO a (step := Jz a a) (fun i (_ : Unit) => (i : Int)) (fun _ _ _ => some (.inl ())) (fun _ => some (.brk ())) ()
  (fun i s hi => by simp only [Jz, Qu hi, Qg hi, Qz hi, QpB, QP (show (i : Int) < 9223372036854775807 by omega), cond_true, cond_false, Qa, Option.bind_some, Bool.not_true, Option.map_some, Sum.map_inl, decide_true])
  (fun s => by simp only [Jz, Qx (Nat.le_refl _), cond_false, Option.map_some])
 rw [JO (g := fun _ _ => ()) a 0 () (fun _ _ _ _ => rfl)] at hr
 unfold QbG
 simp only [decide_true, Bool.not_true, cond_false]
 rw [show ((0 : Int)) = ((0 : Nat) : Int) from rfl, hr]
 rfl
theorem QoN (a : Mark) : Qcp a a = some true := by simp [Qcp]
theorem Qn5 (a : List Mark) (h : a.length ≤ 1048576) : Qbx a a = some true := by
 have hr := QbO a (step := Jx a a) (fun i (_ : Unit) => (i : Int)) (fun _ _ _ => some (.inl ())) (fun _ => some (.brk ())) ()
  (fun i s hi => by simp only [Jx, Qu hi, Qg hi, Qz hi, QoN, QP (show (i : Int) < 9223372036854775807 by omega), cond_true, cond_false, Qa, Option.bind_some, Bool.not_true, Option.map_some, Sum.map_inl, decide_true])
  (fun s => by simp only [Jx, Qx (Nat.le_refl _), cond_false, Option.map_some])
 rw [JO (g := fun _ _ => ()) a 0 () (fun _ _ _ _ => rfl)] at hr
 unfold Qbx
 simp only [decide_true, Bool.not_true, cond_false]
 rw [show ((0 : Int)) = ((0 : Nat) : Int) from rfl, hr]
 rfl
theorem Qo0 (a : Slot) : Qcy a a = some true := by simp [Qcy]
theorem QnA (a : List Slot) (h : a.length ≤ 1048576) : Qb2 a a = some true := by
 have hr := QbO a (step := Jq a a) (fun i (_ : Unit) => (i : Int)) (fun _ _ _ => some (.inl ())) (fun _ => some (.brk ())) ()
  (fun i s hi => by simp only [Jq, Qu hi, Qg hi, Qz hi, Qo0, QP (show (i : Int) < 9223372036854775807 by omega), cond_true, cond_false, Qa, Option.bind_some, Bool.not_true, Option.map_some, Sum.map_inl, decide_true])
  (fun s => by simp only [Jq, Qx (Nat.le_refl _), cond_false, Option.map_some])
 rw [JO (g := fun _ _ => ()) a 0 () (fun _ _ _ _ => rfl)] at hr
 unfold Qb2
 simp only [decide_true, Bool.not_true, cond_false]
 rw [show ((0 : Int)) = ((0 : Nat) : Int) from rfl, hr]
 rfl
theorem Qm5 (a : Claim) : QbQ a a = some true := by simp [QbQ]
theorem QlX (a : List Claim) (h : a.length ≤ 1048576) : QaW a a = some true := by
 have hr := QbO a (step := X6 a a) (fun i (_ : Unit) => (i : Int)) (fun _ _ _ => some (.inl ())) (fun _ => some (.brk ())) ()
  (fun i s hi => by simp only [X6, Qu hi, Qg hi, Qz hi, Qm5, QP (show (i : Int) < 9223372036854775807 by omega), cond_true, cond_false, Qa, Option.bind_some, Bool.not_true, Option.map_some, Sum.map_inl, decide_true])
  (fun s => by simp only [X6, Qx (Nat.le_refl _), cond_false, Option.map_some])
 rw [JO (g := fun _ _ => ()) a 0 () (fun _ _ _ _ => rfl)] at hr
 unfold QaW
 simp only [decide_true, Bool.not_true, cond_false]
 rw [show ((0 : Int)) = ((0 : Nat) : Int) from rfl, hr]
 rfl
theorem Qm2 (a : Trial) : Qbn a a = some true := by simp [Qbn]
theorem Qmm (a : List Trial) (h : a.length ≤ 1048576) : QaM a a = some true := by
 have hr := QbO a (step := Jb a a) (fun i (_ : Unit) => (i : Int)) (fun _ _ _ => some (.inl ())) (fun _ => some (.brk ())) ()
  (fun i s hi => by simp only [Jb, Qu hi, Qg hi, Qz hi, Qm2, QP (show (i : Int) < 9223372036854775807 by omega), cond_true, cond_false, Qa, Option.bind_some, Bool.not_true, Option.map_some, Sum.map_inl, decide_true])
  (fun s => by simp only [Jb, Qx (Nat.le_refl _), cond_false, Option.map_some])
 rw [JO (g := fun _ _ => ()) a 0 () (fun _ _ _ _ => rfl)] at hr
 unfold QaM
 simp only [decide_true, Bool.not_true, cond_false]
 rw [show ((0 : Int)) = ((0 : Nat) : Int) from rfl, hr]
 rfl
theorem Qoj (a : Hand) : Qcw a a = some true := by simp [Qcw]
theorem Qng (a : List Hand) (h : a.length ≤ 1048576) : QbN a a = some true := by
 have hr := QbO a (step := Jo a a) (fun i (_ : Unit) => (i : Int)) (fun _ _ _ => some (.inl ())) (fun _ => some (.brk ())) ()
  (fun i s hi => by simp only [Jo, Qu hi, Qg hi, Qz hi, Qoj, QP (show (i : Int) < 9223372036854775807 by omega), cond_true, cond_false, Qa, Option.bind_some, Bool.not_true, Option.map_some, Sum.map_inl, decide_true])
  (fun s => by simp only [Jo, Qx (Nat.le_refl _), cond_false, Option.map_some])
 rw [JO (g := fun _ _ => ()) a 0 () (fun _ _ _ _ => rfl)] at hr
 unfold QbN
 simp only [decide_true, Bool.not_true, cond_false]
 rw [show ((0 : Int)) = ((0 : Nat) : Int) from rfl, hr]
 rfl
theorem QnZ (a : Entry) : QbZ a a = some true := by simp [QbZ]
theorem Qmo (a : List Entry) (h : a.length ≤ 1048576) : QaR a a = some true := by
 have hr := QbO a (step := X5 a a) (fun i (_ : Unit) => (i : Int)) (fun _ _ _ => some (.inl ())) (fun _ => some (.brk ())) ()
  (fun i s hi => by simp only [X5, Qu hi, Qg hi, Qz hi, QnZ, QP (show (i : Int) < 9223372036854775807 by omega), cond_true, cond_false, Qa, Option.bind_some, Bool.not_true, Option.map_some, Sum.map_inl, decide_true])
  (fun s => by simp only [X5, Qx (Nat.le_refl _), cond_false, Option.map_some])
 rw [JO (g := fun _ _ => ()) a 0 () (fun _ _ _ _ => rfl)] at hr
 unfold QaR
 simp only [decide_true, Bool.not_true, cond_false]
 rw [show ((0 : Int)) = ((0 : Nat) : Int) from rfl, hr]
 rfl
theorem QqQ (a : Bid) : Qc3 a a = some true := by simp [Qc3]
theorem QoV (a : List Bid) (h : a.length ≤ 1048576) : QcC a a = some true := by
 have hr := QbO a (step := J3 a a) (fun i (_ : Unit) => (i : Int)) (fun _ _ _ => some (.inl ())) (fun _ => some (.brk ())) ()
  (fun i s hi => by simp only [J3, Qu hi, Qg hi, Qz hi, QqQ, QP (show (i : Int) < 9223372036854775807 by omega), cond_true, cond_false, Qa, Option.bind_some, Bool.not_true, Option.map_some, Sum.map_inl, decide_true])
  (fun s => by simp only [J3, Qx (Nat.le_refl _), cond_false, Option.map_some])
 rw [JO (g := fun _ _ => ()) a 0 () (fun _ _ _ _ => rfl)] at hr
 unfold QcC
 simp only [decide_true, Bool.not_true, cond_false]
 rw [show ((0 : Int)) = ((0 : Nat) : Int) from rfl, hr]
 rfl
def smL {α : Type} (ok : α → Prop) (l : List α) : Prop := l.length ≤ 1048576 ∧ ∀ x ∈ l, ok x
theorem Qdx {n : Nat} {left : Int} (hn : (n : Int) ≤ 9223372036854775807) (h0 : 0 ≤ left) (h1 : left ≤ 1048576) :
  ∃ r, (bif (decide (w64 (left - (n : Int)) < 0)) then some (-1) else some (w64 (left - (n : Int)))) = some r ∧ r ≤ left ∧ (r = -1 ∨ (0 ≤ r ∧ n ≤ 1048576)) := by
 rw [Vd (by omega) (by omega)]
 by_cases h : left - (n : Int) < 0
 ·exact ⟨-1, by rw [decide_eq_true h]; rfl, by omega, .inl rfl⟩
 ·exact ⟨left - n, by rw [decide_eq_false h]; rfl, by omega, .inr ⟨by omega, by omega⟩⟩
theorem QAi {α : Type} {l : List α} {sm : α → Prop} {sz : α → Int → Option Int} {step : (Int × Int) → Option ((Int × Int) ⊕ (Fl Int Int))}
  (hsz : ∀ x ∈ l, ∀ left, 0 ≤ left → left ≤ 1048576 → ∃ r, sz x left = some r ∧ r ≤ left ∧ (r = -1 ∨ (0 ≤ r ∧ sm x)))
  (h1 : ∀ (i : Nat) (left : Int) (h : i < l.length), step (left, (i : Int)) = (sz l[i] left).bind fun r => (bif (decide (r < 0)) then some (.inr (.ret (-1))) else some (.inl (r, ((i + 1 : Nat) : Int)))))
  (h2 : ∀ left, step (left, (l.length : Int)) = some (.inr (.brk left))) :
  ∀ (m i : Nat) (left : Int), i + m = l.length → 0 ≤ left → left ≤ 1048576 → ∃ c, run step (left, (i : Int)) = some c ∧ (c = .ret (-1) ∨ ∃ r, c = .brk r ∧ 0 ≤ r ∧ r ≤ left ∧ ∀ x ∈ l.drop i, sm x) := by
 intro m
 induction m with
 | zero =>
  intro i left hi g0 g1
  have : i = l.length := by omega
  subst this
  exact ⟨.brk left, by rw [Qs, h2]; rfl, .inr ⟨left, rfl, g0, Int.le_refl _, by simp⟩⟩
 | succ m ih =>
  intro i left hi g0 g1
  have hlt : i < l.length := by omega
  obtain ⟨r, e, hr, h | ⟨h, hs⟩⟩ := hsz l[i] (List.getElem_mem hlt) left g0 g1
  ·subst h
   exact ⟨.ret (-1), by rw [Qs, h1 i left hlt, e]; rfl, .inl rfl⟩
  ·obtain ⟨c, e2, h2⟩ := ih (i + 1) r (by omega) h (by omega)
   have hd : decide (r < 0) = false := decide_eq_false (by omega)
   refine ⟨c, by rw [Qs, h1 i left hlt, e]; simp only [Option.bind_some, hd, cond_false]; exact e2, ?_⟩
   rcases h2 with h2 | ⟨r', h2, h3, h4, h5⟩
   ·exact .inl h2
   ·refine .inr ⟨r', h2, h3, by omega, fun x hx => ?_⟩
    rw [List.drop_eq_getElem_cons hlt] at hx
    rcases List.mem_cons.1 hx with rfl | hx
    ·exact hs
    ·exact h5 x hx
theorem Qp0 (a : List Find) (left : Int) (ha : a.length ≤ 9223372036854775807) (h0 : 0 ≤ left) (h1 : left ≤ 1048576) : ∃ r, QbA a left = some r ∧ r ≤ left ∧ (r = -1 ∨ (0 ≤ r ∧ a.length ≤ 1048576)) := by
 unfold QbA; rw [Vg]; exact Qdx (by omega) h0 h1
theorem Qp6 (a : List Mark) (left : Int) (ha : a.length ≤ 9223372036854775807) (h0 : 0 ≤ left) (h1 : left ≤ 1048576) : ∃ r, QbR a left = some r ∧ r ≤ left ∧ (r = -1 ∨ (0 ≤ r ∧ a.length ≤ 1048576)) := by
 unfold QbR; rw [Vg]; exact Qdx (by omega) h0 h1
def Xz (x : Secret) : Prop := x.Marks.length ≤ 1048576
theorem QoS (a : Secret) (left : Int) (ha : Qfm a) (h0 : 0 ≤ left) (h1 : left ≤ 1048576) : ∃ r, ZX a left = some r ∧ r ≤ left ∧ (r = -1 ∨ (0 ≤ r ∧ Xz a)) := by
 obtain ⟨q0, q1, q2⟩ := ha
 unfold ZX
 obtain ⟨r1, e1, l1, h | ⟨p1, s1⟩⟩ := Qp6 a.Marks left q1.1 h0 (by omega)
 ·subst h; exact ⟨-1, by simp only [e1, Option.bind_some, cond_false]; rfl, by omega, .inl rfl⟩
 exact ⟨r1, by simp only [e1, decide_eq_false (show ¬ r1 < 0 by omega), Option.bind_some, cond_false], by omega, .inr ⟨p1, s1⟩⟩
theorem QnQ (a : List Secret) (left : Int) (ha : (okL Qfm) a) (h0 : 0 ≤ left) (h1 : left ≤ 1048576) : ∃ r, Qaf a left = some r ∧ r ≤ left ∧ (r = -1 ∨ (0 ≤ r ∧ smL Xz a)) := by
 have hl := ha.1
 unfold Qaf
 rw [Vg, Vd (by omega) (by omega)]
 by_cases h : left - (a.length : Int) < 0
 ·exact ⟨-1, by rw [decide_eq_true h]; rfl, by omega, .inl rfl⟩
 rw [decide_eq_false h]
 obtain ⟨c, e, hc⟩ := QAi (l := a) (sm := Xz) (sz := ZX) (step := Xl a) (fun x hx left g0 g1 => QoS x left (ha.2 x hx) g0 g1)
  (fun i left hi => by simp only [Xl, Qu hi, Qg hi, Qz hi, QP (show (i : Int) < 9223372036854775807 by omega), cond_true, Qa])
  (fun left => by simp only [Xl, Qx (Nat.le_refl _), cond_false]) a.length 0 (left - a.length) (by omega) (by omega) (by omega)
 rcases hc with rfl | ⟨r, rfl, g0, g1, g2⟩
 ·exact ⟨-1, by simp only [cond_false]; rw [show (0 : Int) = ((0 : Nat) : Int) from rfl, e]; rfl, by omega, .inl rfl⟩
 ·exact ⟨r, by simp only [cond_false]; rw [show (0 : Int) = ((0 : Nat) : Int) from rfl, e]; rfl, by omega, .inr ⟨g0, by omega, by simpa using g2⟩⟩
theorem Qqi (a : List Slot) (left : Int) (ha : a.length ≤ 9223372036854775807) (h0 : 0 ≤ left) (h1 : left ≤ 1048576) : ∃ r, Qbw a left = some r ∧ r ≤ left ∧ (r = -1 ∨ (0 ≤ r ∧ a.length ≤ 1048576)) := by
 unfold Qbw; rw [Vg]; exact Qdx (by omega) h0 h1
theorem QoL (a : List Claim) (left : Int) (ha : a.length ≤ 9223372036854775807) (h0 : 0 ≤ left) (h1 : left ≤ 1048576) : ∃ r, QaN a left = some r ∧ r ≤ left ∧ (r = -1 ∨ (0 ≤ r ∧ a.length ≤ 1048576)) := by
 unfold QaN; rw [Vg]; exact Qdx (by omega) h0 h1
theorem Qo2 (a : List Trial) (left : Int) (ha : a.length ≤ 9223372036854775807) (h0 : 0 ≤ left) (h1 : left ≤ 1048576) : ∃ r, QaV a left = some r ∧ r ≤ left ∧ (r = -1 ∨ (0 ≤ r ∧ a.length ≤ 1048576)) := by
 unfold QaV; rw [Vg]; exact Qdx (by omega) h0 h1
theorem QqR (a : List Hand) (left : Int) (ha : a.length ≤ 9223372036854775807) (h0 : 0 ≤ left) (h1 : left ≤ 1048576) : ∃ r, QbK a left = some r ∧ r ≤ left ∧ (r = -1 ∨ (0 ≤ r ∧ a.length ≤ 1048576)) := by
 unfold QbK; rw [Vg]; exact Qdx (by omega) h0 h1
theorem Qn9 (a : List Entry) (left : Int) (ha : a.length ≤ 9223372036854775807) (h0 : 0 ≤ left) (h1 : left ≤ 1048576) : ∃ r, QaU a left = some r ∧ r ≤ left ∧ (r = -1 ∨ (0 ≤ r ∧ a.length ≤ 1048576)) := by
 unfold QaU; rw [Vg]; exact Qdx (by omega) h0 h1
def QZ (x : House) : Prop := x.Finds.length ≤ 1048576 ∧ smL Xz x.Secrets ∧ x.Slots.length ≤ 1048576 ∧ x.Claims.length ≤ 1048576 ∧ x.Trials.length ≤ 1048576 ∧ x.Chain.length ≤ 1048576 ∧ x.Book.length ≤ 1048576
theorem Qqt (a : House) (left : Int) (ha : QjS a) (h0 : 0 ≤ left) (h1 : left ≤ 1048576) : ∃ r, QbP a left = some r ∧ r ≤ left ∧ (r = -1 ∨ (0 ≤ r ∧ QZ a)) := by
 obtain ⟨q0, q1, q2, q3, q4, q5, q6, q7, q8⟩ := ha
 unfold QbP
 obtain ⟨r1, e1, l1, h | ⟨p1, s1⟩⟩ := Qp0 a.Finds left q1.1 h0 (by omega)
 ·subst h; exact ⟨-1, by simp only [e1, Option.bind_some, cond_false]; rfl, by omega, .inl rfl⟩
 obtain ⟨r2, e2, l2, h | ⟨p2, s2⟩⟩ := QnQ a.Secrets r1 q2 p1 (by omega)
 ·subst h; exact ⟨-1, by simp only [e1, e2, decide_eq_false (show ¬ r1 < 0 by omega), Option.bind_some, cond_false]; rfl, by omega, .inl rfl⟩
 obtain ⟨r3, e3, l3, h | ⟨p3, s3⟩⟩ := Qqi a.Slots r2 q3.1 p2 (by omega)
 ·subst h; exact ⟨-1, by simp only [e1, e2, e3, decide_eq_false (show ¬ r1 < 0 by omega), decide_eq_false (show ¬ r2 < 0 by omega), Option.bind_some, cond_false]; rfl, by omega, .inl rfl⟩
 obtain ⟨r4, e4, l4, h | ⟨p4, s4⟩⟩ := QoL a.Claims r3 q4.1 p3 (by omega)
 ·subst h; exact ⟨-1, by simp only [e1, e2, e3, e4, decide_eq_false (show ¬ r1 < 0 by omega), decide_eq_false (show ¬ r2 < 0 by omega), decide_eq_false (show ¬ r3 < 0 by omega), Option.bind_some, cond_false]; rfl, by omega, .inl rfl⟩
 obtain ⟨r5, e5, l5, h | ⟨p5, s5⟩⟩ := Qo2 a.Trials r4 q5.1 p4 (by omega)
 ·subst h; exact ⟨-1, by simp only [e1, e2, e3, e4, e5, decide_eq_false (show ¬ r1 < 0 by omega), decide_eq_false (show ¬ r2 < 0 by omega), decide_eq_false (show ¬ r3 < 0 by omega), decide_eq_false (show ¬ r4 < 0 by omega), Option.bind_some, cond_false]; rfl, by omega, .inl rfl⟩
 obtain ⟨r6, e6, l6, h | ⟨p6, s6⟩⟩ := QqR a.Chain r5 q6.1 p5 (by omega)
 ·subst h; exact ⟨-1, by simp only [e1, e2, e3, e4, e5, e6, decide_eq_false (show ¬ r1 < 0 by omega), decide_eq_false (show ¬ r2 < 0 by omega), decide_eq_false (show ¬ r3 < 0 by omega), decide_eq_false (show ¬ r4 < 0 by omega), decide_eq_false (show ¬ r5 < 0 by omega), Option.bind_some, cond_false]; rfl, by omega, .inl rfl⟩
 obtain ⟨r7, e7, l7, h | ⟨p7, s7⟩⟩ := Qn9 a.Book r6 q7.1 p6 (by omega)
 ·subst h; exact ⟨-1, by simp only [e1, e2, e3, e4, e5, e6, e7, decide_eq_false (show ¬ r1 < 0 by omega), decide_eq_false (show ¬ r2 < 0 by omega), decide_eq_false (show ¬ r3 < 0 by omega), decide_eq_false (show ¬ r4 < 0 by omega), decide_eq_false (show ¬ r5 < 0 by omega), decide_eq_false (show ¬ r6 < 0 by omega), Option.bind_some, cond_false]; rfl, by omega, .inl rfl⟩
 exact ⟨r7, by simp only [e1, e2, e3, e4, e5, e6, e7, decide_eq_false (show ¬ r1 < 0 by omega), decide_eq_false (show ¬ r2 < 0 by omega), decide_eq_false (show ¬ r3 < 0 by omega), decide_eq_false (show ¬ r4 < 0 by omega), decide_eq_false (show ¬ r5 < 0 by omega), decide_eq_false (show ¬ r6 < 0 by omega), decide_eq_false (show ¬ r7 < 0 by omega), Option.bind_some, cond_false], by omega, .inr ⟨p7, ⟨s1, s2, s3, s4, s5, s6, s7⟩⟩⟩
theorem Qr7 (a : List Bid) (left : Int) (ha : a.length ≤ 9223372036854775807) (h0 : 0 ≤ left) (h1 : left ≤ 1048576) : ∃ r, Qcs a left = some r ∧ r ≤ left ∧ (r = -1 ∨ (0 ≤ r ∧ a.length ≤ 1048576)) := by
 unfold Qcs; rw [Vg]; exact Qdx (by omega) h0 h1
theorem Qpk (a : Secret) (h : Xz a) : ZW a = some a := by
 unfold Xz at h
 have s1 := h
 first | (simp only [ZW, Qks _ s1, Option.bind_some]; done) | (simp only [ZW, Qks _ s1, Option.bind_some]; rfl)
theorem Qg2 (a : List Secret) (h : smL Xz a) : Z6 a = some a := by
 have hl := h.1
 have hr := QbC a (fun x => x) (⟨0, [], 0⟩ : Secret) (step := Xn a) (by omega) (fun i out hi ho => by
  simp only [Xn, Qu hi, Qg hi, Qz hi, Qpk _ (h.2 _ (List.getElem_mem hi)), Qg (show i < out.length by omega), Int.toNat_natCast, QP (show (i : Int) < 9223372036854775807 by omega), cond_true, Qa, Option.bind_some])
  (fun out => by simp only [Xn, Qx (Nat.le_refl _), cond_false])
 unfold Z6
 rw [Vg, Qd5 hl (by omega), Int.toNat_natCast]
 simp only [Qa, hr, List.map_id', Option.bind_some]
theorem QqG (a : House) (h : QZ a) : XQ a = some a := by
 unfold QZ at h
 obtain ⟨s1, s2, s3, s4, s5, s6, s7⟩ := h
 first | (simp only [XQ, Qj3 _ s1, Qg2 _ s2, QkA _ s3, Qi3 _ s4, QiV _ s5, QlO _ s6, QiU _ s7, Option.bind_some]; done) | (simp only [XQ, Qj3 _ s1, Qg2 _ s2, QkA _ s3, Qi3 _ s4, QiV _ s5, QlO _ s6, QiU _ s7, Option.bind_some]; rfl)
theorem QlT (a : Secret) (h : Xz a) : QaK a a = some true := by
 unfold Xz at h
 have s1 := h
 simp [QaK, Qn5 _ s1]
theorem QlD (a : List Secret) (h : smL Xz a) : Qae a a = some true := by
 have hl := h.1
 have hr := QbO a (step := Xo a a) (fun i (_ : Unit) => (i : Int)) (fun _ _ _ => some (.inl ())) (fun _ => some (.brk ())) ()
  (fun i s hi => by simp only [Xo, Qu hi, Qg hi, Qz hi, QlT _ (h.2 _ (List.getElem_mem hi)), QP (show (i : Int) < 9223372036854775807 by omega), cond_true, cond_false, Qa, Option.bind_some, Bool.not_true, Option.map_some, Sum.map_inl, decide_true])
  (fun s => by simp only [Xo, Qx (Nat.le_refl _), cond_false, Option.map_some])
 rw [JO (g := fun _ _ => ()) a 0 () (fun _ _ _ _ => rfl)] at hr
 unfold Qae
 simp only [decide_true, Bool.not_true, cond_false]
 rw [show ((0 : Int)) = ((0 : Nat) : Int) from rfl, hr]
 rfl
theorem Qhj (a : House) (h : QZ a) : JH a a = some true := by
 unfold QZ at h
 obtain ⟨s1, s2, s3, s4, s5, s6, s7⟩ := h
 simp [JH, QnK _ s1, QlD _ s2, QnA _ s3, QlX _ s4, Qmm _ s5, Qng _ s6, Qmo _ s7]
end Go.Proofs.YtcdffihcfeajfaaGreat
