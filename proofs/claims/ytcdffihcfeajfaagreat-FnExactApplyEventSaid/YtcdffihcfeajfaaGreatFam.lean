import Derived.Test.YtcdffihcfeajfaaGreatFn
import Derived.Test.YtcdffihcfeajfaaGreatPl
namespace Go.Proofs.YtcdffihcfeajfaaGreat
open Go
set_option maxHeartbeats 4000000
set_option linter.unusedVariables false
set_option linter.unusedSimpArgs false
set_option linter.defProp false
set_option maxRecDepth 100000
theorem Qgm {n b : Nat} (h : n ≤ 1048576) (hb : b ≤ 1024) : mkB (n : Int) b = true := by
 unfold mkB
 have h1 : n * b ≤ 1048576 * 1024 := Nat.mul_le_mul h hb
 have h2 := Int.ofNat_le.2 h1
 rw [Int.natCast_mul] at h2
 have h3 : (n : Int) * (b : Int) ≤ 140737488355328 := by omega
 simp only [h3, Int.natCast_nonneg, decide_true, Bool.and_self]
theorem VA {n b : Nat} (h : n ≤ 2000000) (hb : b ≤ 1024) : rm n b = true := by
 unfold rm
 have h1 : n * b ≤ 2000000 * 1024 := Nat.mul_le_mul h hb
 have h3 : n * b ≤ 140737488355328 := by omega
 simp only [h3, decide_true]
theorem Qnr (a : Thing) : QbU a = some a := by first | rfl | (simp only [QbU, Option.bind_some]; done) | (simp only [QbU, Option.bind_some]; rfl)
theorem QkW (a : Find) : QbJ a = some a := by first | rfl | (simp only [QbJ, Qnr, Option.bind_some]; done) | (simp only [QbJ, Qnr, Option.bind_some]; rfl)
theorem Qna (a : List Find) (h : a.length ≤ 1048576) : Qdp a = some a := by
 have hr := QdL a (fun x => x) (⟨⟨0, 0, 0, 0, 0⟩, 0, 0, 0⟩ : Find) (step := Zl a) (by omega) (fun i out hi ho => by
  simp only [Zl, Qp hi, Qd hi, Qn hi, QkW, Qd (show i < out.length by omega), Int.toNat_natCast, QI (show (i : Int) < 9223372036854775807 by omega), cond_true, Qa, Option.bind_some])
  (fun out => by simp only [Zl, Qu (Nat.le_refl _), cond_false])
 unfold Qdp
 rw [Vl, Qgm h (by omega), Int.toNat_natCast]
 simp only [Qa, hr, List.map_id', Option.bind_some]
theorem Qvv (a : Mark) : QcX a = some a := by first | rfl | (simp only [QcX, Option.bind_some]; done) | (simp only [QcX, Option.bind_some]; rfl)
theorem Qf0 (a : List Mark) (h : a.length ≤ 1048576) : Qb3 a = some a := by
 have hr := QdL a (fun x => x) (⟨0, 0⟩ : Mark) (step := Zm a) (by omega) (fun i out hi ho => by
  simp only [Zm, Qp hi, Qd hi, Qn hi, Qvv, Qd (show i < out.length by omega), Int.toNat_natCast, QI (show (i : Int) < 9223372036854775807 by omega), cond_true, Qa, Option.bind_some])
  (fun out => by simp only [Zm, Qu (Nat.le_refl _), cond_false])
 unfold Qb3
 rw [Vl, Qgm h (by omega), Int.toNat_natCast]
 simp only [Qa, hr, List.map_id', Option.bind_some]
theorem Qv3 (a : Slot) : QcY a = some a := by first | rfl | (simp only [QcY, Option.bind_some]; done) | (simp only [QcY, Option.bind_some]; rfl)
theorem QnT (a : List Slot) (h : a.length ≤ 1048576) : Qdx a = some a := by
 have hr := QdL a (fun x => x) (⟨0, 0, 0⟩ : Slot) (step := Zy a) (by omega) (fun i out hi ho => by
  simp only [Zy, Qp hi, Qd hi, Qn hi, Qv3, Qd (show i < out.length by omega), Int.toNat_natCast, QI (show (i : Int) < 9223372036854775807 by omega), cond_true, Qa, Option.bind_some])
  (fun out => by simp only [Zy, Qu (Nat.le_refl _), cond_false])
 unfold Qdx
 rw [Vl, Qgm h (by omega), Int.toNat_natCast]
 simp only [Qa, hr, List.map_id', Option.bind_some]
theorem QtM (a : Claim) : Qcb a = some a := by first | rfl | (simp only [Qcb, Option.bind_some]; done) | (simp only [Qcb, Option.bind_some]; rfl)
theorem Ql1 (a : List Claim) (h : a.length ≤ 1048576) : Qcn a = some a := by
 have hr := QdL a (fun x => x) (⟨0, 0, 0, 0, 0⟩ : Claim) (step := JX a) (by omega) (fun i out hi ho => by
  simp only [JX, Qp hi, Qd hi, Qn hi, QtM, Qd (show i < out.length by omega), Int.toNat_natCast, QI (show (i : Int) < 9223372036854775807 by omega), cond_true, Qa, Option.bind_some])
  (fun out => by simp only [JX, Qu (Nat.le_refl _), cond_false])
 unfold Qcn
 rw [Vl, Qgm h (by omega), Int.toNat_natCast]
 simp only [Qa, hr, List.map_id', Option.bind_some]
theorem Qtd (a : Trial) : QbS a = some a := by first | rfl | (simp only [QbS, Option.bind_some]; done) | (simp only [QbS, Option.bind_some]; rfl)
theorem Ql3 (a : List Trial) (h : a.length ≤ 1048576) : QcA a = some a := by
 have hr := QdL a (fun x => x) (⟨0, 0, 0, 0⟩ : Trial) (step := JT a) (by omega) (fun i out hi ho => by
  simp only [JT, Qp hi, Qd hi, Qn hi, Qtd, Qd (show i < out.length by omega), Int.toNat_natCast, QI (show (i : Int) < 9223372036854775807 by omega), cond_true, Qa, Option.bind_some])
  (fun out => by simp only [JT, Qu (Nat.le_refl _), cond_false])
 unfold QcA
 rw [Vl, Qgm h (by omega), Int.toNat_natCast]
 simp only [Qa, hr, List.map_id', Option.bind_some]
theorem Qv0 (a : Hand) : Qc0 a = some a := by first | rfl | (simp only [Qc0, Option.bind_some]; done) | (simp only [Qc0, Option.bind_some]; rfl)
theorem QnQ (a : List Hand) (h : a.length ≤ 1048576) : Qc7 a = some a := by
 have hr := QdL a (fun x => x) (⟨0, 0, 0, 0, 0⟩ : Hand) (step := Zs a) (by omega) (fun i out hi ho => by
  simp only [Zs, Qp hi, Qd hi, Qn hi, Qv0, Qd (show i < out.length by omega), Int.toNat_natCast, QI (show (i : Int) < 9223372036854775807 by omega), cond_true, Qa, Option.bind_some])
  (fun out => by simp only [Zs, Qu (Nat.le_refl _), cond_false])
 unfold Qc7
 rw [Vl, Qgm h (by omega), Int.toNat_natCast]
 simp only [Qa, hr, List.map_id', Option.bind_some]
theorem Qts (a : Entry) : Qcc a = some a := by first | rfl | (simp only [Qcc, Option.bind_some]; done) | (simp only [Qcc, Option.bind_some]; rfl)
theorem QlM (a : List Entry) (h : a.length ≤ 1048576) : QcH a = some a := by
 have hr := QdL a (fun x => x) (⟨0, 0, 0, 0⟩ : Entry) (step := J6 a) (by omega) (fun i out hi ho => by
  simp only [J6, Qp hi, Qd hi, Qn hi, Qts, Qd (show i < out.length by omega), Int.toNat_natCast, QI (show (i : Int) < 9223372036854775807 by omega), cond_true, Qa, Option.bind_some])
  (fun out => by simp only [J6, Qu (Nat.le_refl _), cond_false])
 unfold QcH
 rw [Vl, Qgm h (by omega), Int.toNat_natCast]
 simp only [Qa, hr, List.map_id', Option.bind_some]
theorem Qzb (a : Bid) : QdX a = some a := by first | rfl | (simp only [QdX, Option.bind_some]; done) | (simp only [QdX, Option.bind_some]; rfl)
theorem QpI (a : List Bid) (h : a.length ≤ 1048576) : Qej a = some a := by
 have hr := QdL a (fun x => x) (⟨0, 0, 0⟩ : Bid) (step := Qai a) (by omega) (fun i out hi ho => by
  simp only [Qai, Qp hi, Qd hi, Qn hi, Qzb, Qd (show i < out.length by omega), Int.toNat_natCast, QI (show (i : Int) < 9223372036854775807 by omega), cond_true, Qa, Option.bind_some])
  (fun out => by simp only [Qai, Qu (Nat.le_refl _), cond_false])
 unfold Qej
 rw [Vl, Qgm h (by omega), Int.toNat_natCast]
 simp only [Qa, hr, List.map_id', Option.bind_some]
theorem QqC (a : Thing) : QdI a a = some true := by simp [QdI]
theorem QlO (a : Find) : QcW a a = some true := by simp [QcW, QqC]
theorem QqA (a : List Find) (h : a.length ≤ 1048576) : QdH a a = some true := by
 have hr := Qdf a (step := Zq a a) (fun i (_ : Unit) => (i : Int)) (fun _ _ _ => some (.inl ())) (fun _ => some (.brk ())) ()
  (fun i s hi => by simp only [Zq, Qp hi, Qd hi, Qn hi, QlO, QI (show (i : Int) < 9223372036854775807 by omega), cond_true, cond_false, Qa, Option.bind_some, Bool.not_true, Option.map_some, Sum.map_inl, decide_true])
  (fun s => by simp only [Zq, Qu (Nat.le_refl _), cond_false, Option.map_some])
 rw [ZU (g := fun _ _ => ()) a 0 () (fun _ _ _ _ => rfl)] at hr
 unfold QdH
 simp only [decide_true, Bool.not_true, cond_false]
 rw [show ((0 : Int)) = ((0 : Nat) : Int) from rfl, hr]
 rfl
theorem QrC (a : Mark) : Qei a a = some true := by simp [Qei]
theorem Qkq (a : List Mark) (h : a.length ≤ 1048576) : QbW a a = some true := by
 have hr := Qdf a (step := Zp a a) (fun i (_ : Unit) => (i : Int)) (fun _ _ _ => some (.inl ())) (fun _ => some (.brk ())) ()
  (fun i s hi => by simp only [Zp, Qp hi, Qd hi, Qn hi, QrC, QI (show (i : Int) < 9223372036854775807 by omega), cond_true, cond_false, Qa, Option.bind_some, Bool.not_true, Option.map_some, Sum.map_inl, decide_true])
  (fun s => by simp only [Zp, Qu (Nat.le_refl _), cond_false, Option.map_some])
 rw [ZU (g := fun _ _ => ()) a 0 () (fun _ _ _ _ => rfl)] at hr
 unfold QbW
 simp only [decide_true, Bool.not_true, cond_false]
 rw [show ((0 : Int)) = ((0 : Nat) : Int) from rfl, hr]
 rfl
theorem Qsy (a : Slot) : Qec a a = some true := by simp [Qec]
theorem Qqz (a : List Slot) (h : a.length ≤ 1048576) : Qdl a a = some true := by
 have hr := Qdf a (step := Zj a a) (fun i (_ : Unit) => (i : Int)) (fun _ _ _ => some (.inl ())) (fun _ => some (.brk ())) ()
  (fun i s hi => by simp only [Zj, Qp hi, Qd hi, Qn hi, Qsy, QI (show (i : Int) < 9223372036854775807 by omega), cond_true, cond_false, Qa, Option.bind_some, Bool.not_true, Option.map_some, Sum.map_inl, decide_true])
  (fun s => by simp only [Zj, Qu (Nat.le_refl _), cond_false, Option.map_some])
 rw [ZU (g := fun _ _ => ()) a 0 () (fun _ _ _ _ => rfl)] at hr
 unfold Qdl
 simp only [decide_true, Bool.not_true, cond_false]
 rw [show ((0 : Int)) = ((0 : Nat) : Int) from rfl, hr]
 rfl
theorem Qrh (a : Claim) : Qdm a a = some true := by simp [Qdm]
theorem Qpd (a : List Claim) (h : a.length ≤ 1048576) : Qcx a a = some true := by
 have hr := Qdf a (step := JS a a) (fun i (_ : Unit) => (i : Int)) (fun _ _ _ => some (.inl ())) (fun _ => some (.brk ())) ()
  (fun i s hi => by simp only [JS, Qp hi, Qd hi, Qn hi, Qrh, QI (show (i : Int) < 9223372036854775807 by omega), cond_true, cond_false, Qa, Option.bind_some, Bool.not_true, Option.map_some, Sum.map_inl, decide_true])
  (fun s => by simp only [JS, Qu (Nat.le_refl _), cond_false, Option.map_some])
 rw [ZU (g := fun _ _ => ()) a 0 () (fun _ _ _ _ => rfl)] at hr
 unfold Qcx
 simp only [decide_true, Bool.not_true, cond_false]
 rw [show ((0 : Int)) = ((0 : Nat) : Int) from rfl, hr]
 rfl
theorem Qq4 (a : Trial) : QdD a a = some true := by simp [QdD]
theorem Qo7 (a : List Trial) (h : a.length ≤ 1048576) : Qct a a = some true := by
 have hr := Qdf a (step := JV a a) (fun i (_ : Unit) => (i : Int)) (fun _ _ _ => some (.inl ())) (fun _ => some (.brk ())) ()
  (fun i s hi => by simp only [JV, Qp hi, Qd hi, Qn hi, Qq4, QI (show (i : Int) < 9223372036854775807 by omega), cond_true, cond_false, Qa, Option.bind_some, Bool.not_true, Option.map_some, Sum.map_inl, decide_true])
  (fun s => by simp only [JV, Qu (Nat.le_refl _), cond_false, Option.map_some])
 rw [ZU (g := fun _ _ => ()) a 0 () (fun _ _ _ _ => rfl)] at hr
 unfold Qct
 simp only [decide_true, Bool.not_true, cond_false]
 rw [show ((0 : Int)) = ((0 : Nat) : Int) from rfl, hr]
 rfl
theorem QrP (a : Hand) : Qeg a a = some true := by simp [Qeg]
theorem Qq6 (a : List Hand) (h : a.length ≤ 1048576) : Qdy a a = some true := by
 have hr := Qdf a (step := Zv a a) (fun i (_ : Unit) => (i : Int)) (fun _ _ _ => some (.inl ())) (fun _ => some (.brk ())) ()
  (fun i s hi => by simp only [Zv, Qp hi, Qd hi, Qn hi, QrP, QI (show (i : Int) < 9223372036854775807 by omega), cond_true, cond_false, Qa, Option.bind_some, Bool.not_true, Option.map_some, Sum.map_inl, decide_true])
  (fun s => by simp only [Zv, Qu (Nat.le_refl _), cond_false, Option.map_some])
 rw [ZU (g := fun _ _ => ()) a 0 () (fun _ _ _ _ => rfl)] at hr
 unfold Qdy
 simp only [decide_true, Bool.not_true, cond_false]
 rw [show ((0 : Int)) = ((0 : Nat) : Int) from rfl, hr]
 rfl
theorem Qq1 (a : Entry) : QdM a a = some true := by simp [QdM]
theorem QoZ (a : List Entry) (h : a.length ≤ 1048576) : QcG a a = some true := by
 have hr := Qdf a (step := J7 a a) (fun i (_ : Unit) => (i : Int)) (fun _ _ _ => some (.inl ())) (fun _ => some (.brk ())) ()
  (fun i s hi => by simp only [J7, Qp hi, Qd hi, Qn hi, Qq1, QI (show (i : Int) < 9223372036854775807 by omega), cond_true, cond_false, Qa, Option.bind_some, Bool.not_true, Option.map_some, Sum.map_inl, decide_true])
  (fun s => by simp only [J7, Qu (Nat.le_refl _), cond_false, Option.map_some])
 rw [ZU (g := fun _ _ => ()) a 0 () (fun _ _ _ _ => rfl)] at hr
 unfold QcG
 simp only [decide_true, Bool.not_true, cond_false]
 rw [show ((0 : Int)) = ((0 : Nat) : Int) from rfl, hr]
 rfl
theorem QtE (a : Bid) : QeS a a = some true := by simp [QeS]
theorem QrJ (a : List Bid) (h : a.length ≤ 1048576) : Qeq a a = some true := by
 have hr := Qdf a (step := Qah a a) (fun i (_ : Unit) => (i : Int)) (fun _ _ _ => some (.inl ())) (fun _ => some (.brk ())) ()
  (fun i s hi => by simp only [Qah, Qp hi, Qd hi, Qn hi, QtE, QI (show (i : Int) < 9223372036854775807 by omega), cond_true, cond_false, Qa, Option.bind_some, Bool.not_true, Option.map_some, Sum.map_inl, decide_true])
  (fun s => by simp only [Qah, Qu (Nat.le_refl _), cond_false, Option.map_some])
 rw [ZU (g := fun _ _ => ()) a 0 () (fun _ _ _ _ => rfl)] at hr
 unfold Qeq
 simp only [decide_true, Bool.not_true, cond_false]
 rw [show ((0 : Int)) = ((0 : Nat) : Int) from rfl, hr]
 rfl
def smL {α : Type} (ok : α → Prop) (l : List α) : Prop := l.length ≤ 1048576 ∧ ∀ x ∈ l, ok x
theorem Qfq {n : Nat} {left : Int} (hn : (n : Int) ≤ 9223372036854775807) (h0 : 0 ≤ left) (h1 : left ≤ 1048576) :
  ∃ r, (bif (decide (w64 (left - (n : Int)) < 0)) then some (-1) else some (w64 (left - (n : Int)))) = some r ∧ r ≤ left ∧ (r = -1 ∨ (0 ≤ r ∧ n ≤ 1048576)) := by
 rw [Ve (by omega) (by omega)]
 by_cases h : left - (n : Int) < 0
 ·exact ⟨-1, by rw [decide_eq_true h]; rfl, by omega, .inl rfl⟩
 ·exact ⟨left - n, by rw [decide_eq_false h]; rfl, by omega, .inr ⟨by omega, by omega⟩⟩
theorem QEX {α : Type} {l : List α} {sm : α → Prop} {sz : α → Int → Option Int} {step : (Int × Int) → Option ((Int × Int) ⊕ (Fl Int Int))}
  (hsz : ∀ x ∈ l, ∀ left, 0 ≤ left → left ≤ 1048576 → ∃ r, sz x left = some r ∧ r ≤ left ∧ (r = -1 ∨ (0 ≤ r ∧ sm x)))
  (h1 : ∀ (i : Nat) (left : Int) (h : i < l.length), step (left, (i : Int)) = (sz l[i] left).bind fun r => (bif (decide (r < 0)) then some (.inr (.ret (-1))) else some (.inl (r, ((i + 1 : Nat) : Int)))))
  (h2 : ∀ left, step (left, (l.length : Int)) = some (.inr (.brk left))) :
  ∀ (m i : Nat) (left : Int), i + m = l.length → 0 ≤ left → left ≤ 1048576 → ∃ c, run step (left, (i : Int)) = some c ∧ (c = .ret (-1) ∨ ∃ r, c = .brk r ∧ 0 ≤ r ∧ r ≤ left ∧ ∀ x ∈ l.drop i, sm x) := by
 intro m
 induction m with
 | zero =>
  intro i left hi g0 g1
  have : i = l.length := by omega
  subst this
  exact ⟨.brk left, by rw [Qt, h2]; rfl, .inr ⟨left, rfl, g0, Int.le_refl _, by simp⟩⟩
 | succ m ih =>
  intro i left hi g0 g1
  have hlt : i < l.length := by omega
  obtain ⟨r, e, hr, h | ⟨h, hs⟩⟩ := hsz l[i] (List.getElem_mem hlt) left g0 g1
  ·subst h
   exact ⟨.ret (-1), by rw [Qt, h1 i left hlt, e]; rfl, .inl rfl⟩
  ·obtain ⟨c, e2, h2⟩ := ih (i + 1) r (by omega) h (by omega)
   have hd : decide (r < 0) = false := decide_eq_false (by omega)
   refine ⟨c, by rw [Qt, h1 i left hlt, e]; simp only [Option.bind_some, hd, cond_false]; exact e2, ?_⟩
   rcases h2 with h2 | ⟨r', h2, h3, h4, h5⟩
   ·exact .inl h2
   ·refine .inr ⟨r', h2, h3, by omega, fun x hx => ?_⟩
    rw [List.drop_eq_getElem_cons hlt] at hx
    rcases List.mem_cons.1 hx with rfl | hx
    ·exact hs
    ·exact h5 x hx
theorem Qtz (a : List Find) (left : Int) (ha : a.length ≤ 9223372036854775807) (h0 : 0 ≤ left) (h1 : left ≤ 1048576) : ∃ r, Qdb a left = some r ∧ r ≤ left ∧ (r = -1 ∨ (0 ≤ r ∧ a.length ≤ 1048576)) := by
 unfold Qdb; rw [Vl]; exact Qfq (by omega) h0 h1
theorem Qox (a : List Mark) (left : Int) (ha : a.length ≤ 9223372036854775807) (h0 : 0 ≤ left) (h1 : left ≤ 1048576) : ∃ r, Qb1 a left = some r ∧ r ≤ left ∧ (r = -1 ∨ (0 ≤ r ∧ a.length ≤ 1048576)) := by
 unfold Qb1; rw [Vl]; exact Qfq (by omega) h0 h1
def Xd (x : Secret) : Prop := x.Marks.length ≤ 1048576
theorem QrB (a : Secret) (left : Int) (ha : Qhk a) (h0 : 0 ≤ left) (h1 : left ≤ 1048576) : ∃ r, Qbf a left = some r ∧ r ≤ left ∧ (r = -1 ∨ (0 ≤ r ∧ Xd a)) := by
 obtain ⟨q0, q1, q2⟩ := ha
 unfold Qbf
 obtain ⟨r1, e1, l1, h | ⟨p1, s1⟩⟩ := Qox a.Marks left q1.1 h0 (by omega)
 ·subst h; exact ⟨-1, by simp only [e1, Option.bind_some, cond_false]; rfl, by omega, .inl rfl⟩
 exact ⟨r1, by simp only [e1, decide_eq_false (show ¬ r1 < 0 by omega), Option.bind_some, cond_false], by omega, .inr ⟨p1, s1⟩⟩
theorem Qq9 (a : List Secret) (left : Int) (ha : (okL Qhk) a) (h0 : 0 ≤ left) (h1 : left ≤ 1048576) : ∃ r, Qbz a left = some r ∧ r ≤ left ∧ (r = -1 ∨ (0 ≤ r ∧ smL Xd a)) := by
 have hl := ha.1
 unfold Qbz
 rw [Vl, Ve (by omega) (by omega)]
 by_cases h : left - (a.length : Int) < 0
 ·exact ⟨-1, by rw [decide_eq_true h]; rfl, by omega, .inl rfl⟩
 rw [decide_eq_false h]
 obtain ⟨c, e, hc⟩ := QEX (l := a) (sm := Xd) (sz := Qbf) (step := Jg a) (fun x hx left g0 g1 => QrB x left (ha.2 x hx) g0 g1)
  (fun i left hi => by simp only [Jg, Qp hi, Qd hi, Qn hi, QI (show (i : Int) < 9223372036854775807 by omega), cond_true, Qa])
  (fun left => by simp only [Jg, Qu (Nat.le_refl _), cond_false]) a.length 0 (left - a.length) (by omega) (by omega) (by omega)
 rcases hc with rfl | ⟨r, rfl, g0, g1, g2⟩
 ·exact ⟨-1, by simp only [cond_false]; rw [show (0 : Int) = ((0 : Nat) : Int) from rfl, e]; rfl, by omega, .inl rfl⟩
 ·exact ⟨r, by simp only [cond_false]; rw [show (0 : Int) = ((0 : Nat) : Int) from rfl, e]; rfl, by omega, .inr ⟨g0, by omega, by simpa using g2⟩⟩
theorem Qtg (a : List Slot) (left : Int) (ha : a.length ≤ 9223372036854775807) (h0 : 0 ≤ left) (h1 : left ≤ 1048576) : ∃ r, QdB a left = some r ∧ r ≤ left ∧ (r = -1 ∨ (0 ≤ r ∧ a.length ≤ 1048576)) := by
 unfold QdB; rw [Vl]; exact Qfq (by omega) h0 h1
theorem Qro (a : List Claim) (left : Int) (ha : a.length ≤ 9223372036854775807) (h0 : 0 ≤ left) (h1 : left ≤ 1048576) : ∃ r, QcI a left = some r ∧ r ≤ left ∧ (r = -1 ∨ (0 ≤ r ∧ a.length ≤ 1048576)) := by
 unfold QcI; rw [Vl]; exact Qfq (by omega) h0 h1
theorem QrS (a : List Trial) (left : Int) (ha : a.length ≤ 9223372036854775807) (h0 : 0 ≤ left) (h1 : left ≤ 1048576) : ∃ r, QcC a left = some r ∧ r ≤ left ∧ (r = -1 ∨ (0 ≤ r ∧ a.length ≤ 1048576)) := by
 unfold QcC; rw [Vl]; exact Qfq (by omega) h0 h1
theorem QtO (a : List Hand) (left : Int) (ha : a.length ≤ 9223372036854775807) (h0 : 0 ≤ left) (h1 : left ≤ 1048576) : ∃ r, Qdr a left = some r ∧ r ≤ left ∧ (r = -1 ∨ (0 ≤ r ∧ a.length ≤ 1048576)) := by
 unfold Qdr; rw [Vl]; exact Qfq (by omega) h0 h1
theorem QsC (a : List Entry) (left : Int) (ha : a.length ≤ 9223372036854775807) (h0 : 0 ≤ left) (h1 : left ≤ 1048576) : ∃ r, Qcz a left = some r ∧ r ≤ left ∧ (r = -1 ∨ (0 ≤ r ∧ a.length ≤ 1048576)) := by
 unfold Qcz; rw [Vl]; exact Qfq (by omega) h0 h1
def Qq (x : House) : Prop := x.Finds.length ≤ 1048576 ∧ smL Xd x.Secrets ∧ x.Slots.length ≤ 1048576 ∧ x.Claims.length ≤ 1048576 ∧ x.Trials.length ≤ 1048576 ∧ x.Chain.length ≤ 1048576 ∧ x.Book.length ≤ 1048576
theorem QtL (a : House) (left : Int) (ha : QmV a) (h0 : 0 ≤ left) (h1 : left ≤ 1048576) : ∃ r, QdE a left = some r ∧ r ≤ left ∧ (r = -1 ∨ (0 ≤ r ∧ Qq a)) := by
 obtain ⟨q0, q1, q2, q3, q4, q5, q6, q7, q8⟩ := ha
 unfold QdE
 obtain ⟨r1, e1, l1, h | ⟨p1, s1⟩⟩ := Qtz a.Finds left q1.1 h0 (by omega)
 ·subst h; exact ⟨-1, by simp only [e1, Option.bind_some, cond_false]; rfl, by omega, .inl rfl⟩
 obtain ⟨r2, e2, l2, h | ⟨p2, s2⟩⟩ := Qq9 a.Secrets r1 q2 p1 (by omega)
 ·subst h; exact ⟨-1, by simp only [e1, e2, decide_eq_false (show ¬ r1 < 0 by omega), Option.bind_some, cond_false]; rfl, by omega, .inl rfl⟩
 obtain ⟨r3, e3, l3, h | ⟨p3, s3⟩⟩ := Qtg a.Slots r2 q3.1 p2 (by omega)
 ·subst h; exact ⟨-1, by simp only [e1, e2, e3, decide_eq_false (show ¬ r1 < 0 by omega), decide_eq_false (show ¬ r2 < 0 by omega), Option.bind_some, cond_false]; rfl, by omega, .inl rfl⟩
 obtain ⟨r4, e4, l4, h | ⟨p4, s4⟩⟩ := Qro a.Claims r3 q4.1 p3 (by omega)
 ·subst h; exact ⟨-1, by simp only [e1, e2, e3, e4, decide_eq_false (show ¬ r1 < 0 by omega), decide_eq_false (show ¬ r2 < 0 by omega), decide_eq_false (show ¬ r3 < 0 by omega), Option.bind_some, cond_false]; rfl, by omega, .inl rfl⟩
 obtain ⟨r5, e5, l5, h | ⟨p5, s5⟩⟩ := QrS a.Trials r4 q5.1 p4 (by omega)
 ·subst h; exact ⟨-1, by simp only [e1, e2, e3, e4, e5, decide_eq_false (show ¬ r1 < 0 by omega), decide_eq_false (show ¬ r2 < 0 by omega), decide_eq_false (show ¬ r3 < 0 by omega), decide_eq_false (show ¬ r4 < 0 by omega), Option.bind_some, cond_false]; rfl, by omega, .inl rfl⟩
 obtain ⟨r6, e6, l6, h | ⟨p6, s6⟩⟩ := QtO a.Chain r5 q6.1 p5 (by omega)
 ·subst h; exact ⟨-1, by simp only [e1, e2, e3, e4, e5, e6, decide_eq_false (show ¬ r1 < 0 by omega), decide_eq_false (show ¬ r2 < 0 by omega), decide_eq_false (show ¬ r3 < 0 by omega), decide_eq_false (show ¬ r4 < 0 by omega), decide_eq_false (show ¬ r5 < 0 by omega), Option.bind_some, cond_false]; rfl, by omega, .inl rfl⟩
 obtain ⟨r7, e7, l7, h | ⟨p7, s7⟩⟩ := QsC a.Book r6 q7.1 p6 (by omega)
 ·subst h; exact ⟨-1, by simp only [e1, e2, e3, e4, e5, e6, e7, decide_eq_false (show ¬ r1 < 0 by omega), decide_eq_false (show ¬ r2 < 0 by omega), decide_eq_false (show ¬ r3 < 0 by omega), decide_eq_false (show ¬ r4 < 0 by omega), decide_eq_false (show ¬ r5 < 0 by omega), decide_eq_false (show ¬ r6 < 0 by omega), Option.bind_some, cond_false]; rfl, by omega, .inl rfl⟩
 exact ⟨r7, by simp only [e1, e2, e3, e4, e5, e6, e7, decide_eq_false (show ¬ r1 < 0 by omega), decide_eq_false (show ¬ r2 < 0 by omega), decide_eq_false (show ¬ r3 < 0 by omega), decide_eq_false (show ¬ r4 < 0 by omega), decide_eq_false (show ¬ r5 < 0 by omega), decide_eq_false (show ¬ r6 < 0 by omega), decide_eq_false (show ¬ r7 < 0 by omega), Option.bind_some, cond_false], by omega, .inr ⟨p7, ⟨s1, s2, s3, s4, s5, s6, s7⟩⟩⟩
theorem QvO (a : List Bid) (left : Int) (ha : a.length ≤ 9223372036854775807) (h0 : 0 ≤ left) (h1 : left ≤ 1048576) : ∃ r, Qep a left = some r ∧ r ≤ left ∧ (r = -1 ∨ (0 ≤ r ∧ a.length ≤ 1048576)) := by
 unfold Qep; rw [Vl]; exact Qfq (by omega) h0 h1
def QfQ (x : Event) : Prop := x.Marks.length ≤ 1048576 ∧ x.Bids.length ≤ 1048576
theorem QtS (a : Event) (left : Int) (ha : Qm1 a) (h0 : 0 ≤ left) (h1 : left ≤ 1048576) : ∃ r, QdG a left = some r ∧ r ≤ left ∧ (r = -1 ∨ (0 ≤ r ∧ QfQ a)) := by
 obtain ⟨q0, q1, q2, q3, q4, q5, q6⟩ := ha
 unfold QdG
 obtain ⟨r2, e2, l2, h | ⟨p2, s2⟩⟩ := Qox a.Marks left q2.1 h0 (by omega)
 ·subst h; exact ⟨-1, by simp only [e2, Option.bind_some, cond_false]; rfl, by omega, .inl rfl⟩
 obtain ⟨r6, e6, l6, h | ⟨p6, s6⟩⟩ := QvO a.Bids r2 q6.1 p2 (by omega)
 ·subst h; exact ⟨-1, by simp only [e2, e6, decide_eq_false (show ¬ r2 < 0 by omega), Option.bind_some, cond_false]; rfl, by omega, .inl rfl⟩
 exact ⟨r6, by simp only [e2, e6, decide_eq_false (show ¬ r2 < 0 by omega), decide_eq_false (show ¬ r6 < 0 by omega), Option.bind_some, cond_false], by omega, .inr ⟨p6, ⟨s2, s6⟩⟩⟩
theorem Qsi (a : Secret) (h : Xd a) : Qbg a = some a := by
 unfold Xd at h
 have s1 := h
 first | (simp only [Qbg, Qf0 _ s1, Option.bind_some]; done) | (simp only [Qbg, Qf0 _ s1, Option.bind_some]; rfl)
theorem Qkl (a : List Secret) (h : smL Xd a) : Qbq a = some a := by
 have hl := h.1
 have hr := QdL a (fun x => x) (⟨0, [], 0⟩ : Secret) (step := Ji a) (by omega) (fun i out hi ho => by
  simp only [Ji, Qp hi, Qd hi, Qn hi, Qsi _ (h.2 _ (List.getElem_mem hi)), Qd (show i < out.length by omega), Int.toNat_natCast, QI (show (i : Int) < 9223372036854775807 by omega), cond_true, Qa, Option.bind_some])
  (fun out => by simp only [Ji, Qu (Nat.le_refl _), cond_false])
 unfold Qbq
 rw [Vl, Qgm hl (by omega), Int.toNat_natCast]
 simp only [Qa, hr, List.map_id', Option.bind_some]
theorem Qua (a : House) (h : Qq a) : JE a = some a := by
 unfold Qq at h
 obtain ⟨s1, s2, s3, s4, s5, s6, s7⟩ := h
 first | (simp only [JE, Qna _ s1, Qkl _ s2, QnT _ s3, Ql1 _ s4, Ql3 _ s5, QnQ _ s6, QlM _ s7, Option.bind_some]; done) | (simp only [JE, Qna _ s1, Qkl _ s2, QnT _ s3, Ql1 _ s4, Ql3 _ s5, QnQ _ s6, QlM _ s7, Option.bind_some]; rfl)
theorem Qt2 (a : Event) (h : QfQ a) : JF a = some a := by
 unfold QfQ at h
 obtain ⟨s2, s6⟩ := h
 first | (simp only [JF, QkW, Qf0 _ s2, QpI _ s6, Option.bind_some]; done) | (simp only [JF, QkW, Qf0 _ s2, QpI _ s6, Option.bind_some]; rfl)
theorem QoY (a : Secret) (h : Xd a) : Qcv a a = some true := by
 unfold Xd at h
 have s1 := h
 simp [Qcv, Qkq _ s1]
theorem QnR (a : List Secret) (h : smL Xd a) : QbM a a = some true := by
 have hl := h.1
 have hr := Qdf a (step := Jo a a) (fun i (_ : Unit) => (i : Int)) (fun _ _ _ => some (.inl ())) (fun _ => some (.brk ())) ()
  (fun i s hi => by simp only [Jo, Qp hi, Qd hi, Qn hi, QoY _ (h.2 _ (List.getElem_mem hi)), QI (show (i : Int) < 9223372036854775807 by omega), cond_true, cond_false, Qa, Option.bind_some, Bool.not_true, Option.map_some, Sum.map_inl, decide_true])
  (fun s => by simp only [Jo, Qu (Nat.le_refl _), cond_false, Option.map_some])
 rw [ZU (g := fun _ _ => ()) a 0 () (fun _ _ _ _ => rfl)] at hr
 unfold QbM
 simp only [decide_true, Bool.not_true, cond_false]
 rw [show ((0 : Int)) = ((0 : Nat) : Int) from rfl, hr]
 rfl
theorem Qjp (a : House) (h : Qq a) : ZD a a = some true := by
 unfold Qq at h
 obtain ⟨s1, s2, s3, s4, s5, s6, s7⟩ := h
 simp [ZD, QqA _ s1, QnR _ s2, Qqz _ s3, Qpd _ s4, Qo7 _ s5, Qq6 _ s6, QoZ _ s7]
theorem Qqh (a : Event) (h : QfQ a) : Qdv a a = some true := by
 unfold QfQ at h
 obtain ⟨s2, s6⟩ := h
 simp [Qdv, QlO, Qkq _ s2, QrJ _ s6]
end Go.Proofs.YtcdffihcfeajfaaGreat
