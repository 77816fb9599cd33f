import Derived.Test.YtcdffihcfeajfaaGreatFn
import Derived.Test.YtcdffihcfeajfaaGreatPl
namespace Go.Proofs.YtcdffihcfeajfaaGreat
open Go
set_option maxHeartbeats 4000000
set_option linter.unusedVariables false
set_option linter.unusedSimpArgs false
set_option linter.defProp false
set_option maxRecDepth 100000
theorem QfS {n b : Nat} (h : n ≤ 1048576) (hb : b ≤ 1024) : mkB (n : Int) b = true := by
 unfold mkB
 have h1 : n * b ≤ 1048576 * 1024 := Nat.mul_le_mul h hb
 have h2 := Int.ofNat_le.2 h1
 rw [Int.natCast_mul] at h2
 have h3 : (n : Int) * (b : Int) ≤ 140737488355328 := by omega
 simp only [h3, Int.natCast_nonneg, decide_true, Bool.and_self]
theorem VA {n b : Nat} (h : n ≤ 2000000) (hb : b ≤ 1024) : rm n b = true := by
 unfold rm
 have h1 : n * b ≤ 2000000 * 1024 := Nat.mul_le_mul h hb
 have h3 : n * b ≤ 140737488355328 := by omega
 simp only [h3, decide_true]
theorem Qnv (a : Thing) : Qb4 a = some a := by first | rfl | (simp only [Qb4, Option.bind_some]; done) | (simp only [Qb4, Option.bind_some]; rfl)
theorem Qk4 (a : Find) : Qb0 a = some a := by first | rfl | (simp only [Qb0, Qnv, Option.bind_some]; done) | (simp only [Qb0, Qnv, Option.bind_some]; rfl)
theorem QoA (a : List Find) (h : a.length ≤ 1048576) : Qdw a = some a := by
 have hr := QcQ a (fun x => x) (⟨⟨0, 0, 0, 0, 0⟩, 0, 0, 0⟩ : Find) (step := ZA a) (by omega) (fun i out hi ho => by
  simp only [ZA, Qo hi, Qd hi, Qp hi, Qk4, Qd (show i < out.length by omega), Int.toNat_natCast, QF (show (i : Int) < 9223372036854775807 by omega), cond_true, Qa, Option.bind_some])
  (fun out => by simp only [ZA, Qu (Nat.le_refl _), cond_false])
 unfold Qdw
 rw [Vj, QfS h (by omega), Int.toNat_natCast]
 simp only [Qa, hr, List.map_id', Option.bind_some]
theorem Qwo (a : Mark) : Qdg a = some a := by first | rfl | (simp only [Qdg, Option.bind_some]; done) | (simp only [Qdg, Option.bind_some]; rfl)
theorem Qgy (a : List Mark) (h : a.length ≤ 1048576) : Qch a = some a := by
 have hr := QcQ a (fun x => x) (⟨0, 0⟩ : Mark) (step := ZG a) (by omega) (fun i out hi ho => by
  simp only [ZG, Qo hi, Qd hi, Qp hi, Qwo, Qd (show i < out.length by omega), Int.toNat_natCast, QF (show (i : Int) < 9223372036854775807 by omega), cond_true, Qa, Option.bind_some])
  (fun out => by simp only [ZG, Qu (Nat.le_refl _), cond_false])
 unfold Qch
 rw [Vj, QfS h (by omega), Int.toNat_natCast]
 simp only [Qa, hr, List.map_id', Option.bind_some]
theorem Qv9 (a : Slot) : Qdm a = some a := by first | rfl | (simp only [Qdm, Option.bind_some]; done) | (simp only [Qdm, Option.bind_some]; rfl)
theorem Qob (a : List Slot) (h : a.length ≤ 1048576) : Qdx a = some a := by
 have hr := QcQ a (fun x => x) (⟨0, 0, 0⟩ : Slot) (step := Zy a) (by omega) (fun i out hi ho => by
  simp only [Zy, Qo hi, Qd hi, Qp hi, Qv9, Qd (show i < out.length by omega), Int.toNat_natCast, QF (show (i : Int) < 9223372036854775807 by omega), cond_true, Qa, Option.bind_some])
  (fun out => by simp only [Zy, Qu (Nat.le_refl _), cond_false])
 unfold Qdx
 rw [Vj, QfS h (by omega), Int.toNat_natCast]
 simp only [Qa, hr, List.map_id', Option.bind_some]
theorem Quf (a : Claim) : Qb8 a = some a := by first | rfl | (simp only [Qb8, Option.bind_some]; done) | (simp only [Qb8, Option.bind_some]; rfl)
theorem Qma (a : List Claim) (h : a.length ≤ 1048576) : Qcz a = some a := by
 have hr := QcQ a (fun x => x) (⟨0, 0, 0, 0, 0⟩ : Claim) (step := JT a) (by omega) (fun i out hi ho => by
  simp only [JT, Qo hi, Qd hi, Qp hi, Quf, Qd (show i < out.length by omega), Int.toNat_natCast, QF (show (i : Int) < 9223372036854775807 by omega), cond_true, Qa, Option.bind_some])
  (fun out => by simp only [JT, Qu (Nat.le_refl _), cond_false])
 unfold Qcz
 rw [Vj, QfS h (by omega), Int.toNat_natCast]
 simp only [Qa, hr, List.map_id', Option.bind_some]
theorem Quj (a : Trial) : Qcb a = some a := by first | rfl | (simp only [Qcb, Option.bind_some]; done) | (simp only [Qcb, Option.bind_some]; rfl)
theorem Qmb (a : List Trial) (h : a.length ≤ 1048576) : QcW a = some a := by
 have hr := QcQ a (fun x => x) (⟨0, 0, 0, 0⟩ : Trial) (step := J5 a) (by omega) (fun i out hi ho => by
  simp only [J5, Qo hi, Qd hi, Qp hi, Quj, Qd (show i < out.length by omega), Int.toNat_natCast, QF (show (i : Int) < 9223372036854775807 by omega), cond_true, Qa, Option.bind_some])
  (fun out => by simp only [J5, Qu (Nat.le_refl _), cond_false])
 unfold QcW
 rw [Vj, QfS h (by omega), Int.toNat_natCast]
 simp only [Qa, hr, List.map_id', Option.bind_some]
theorem QvM (a : Hand) : Qde a = some a := by first | rfl | (simp only [Qde, Option.bind_some]; done) | (simp only [Qde, Option.bind_some]; rfl)
theorem Qom (a : List Hand) (h : a.length ≤ 1048576) : QdE a = some a := by
 have hr := QcQ a (fun x => x) (⟨0, 0, 0, 0, 0⟩ : Hand) (step := ZH a) (by omega) (fun i out hi ho => by
  simp only [ZH, Qo hi, Qd hi, Qp hi, QvM, Qd (show i < out.length by omega), Int.toNat_natCast, QF (show (i : Int) < 9223372036854775807 by omega), cond_true, Qa, Option.bind_some])
  (fun out => by simp only [ZH, Qu (Nat.le_refl _), cond_false])
 unfold QdE
 rw [Vj, QfS h (by omega), Int.toNat_natCast]
 simp only [Qa, hr, List.map_id', Option.bind_some]
theorem QtV (a : Entry) : Qcp a = some a := by first | rfl | (simp only [Qcp, Option.bind_some]; done) | (simp only [Qcp, Option.bind_some]; rfl)
theorem Qmg (a : List Entry) (h : a.length ≤ 1048576) : QcA a = some a := by
 have hr := QcQ a (fun x => x) (⟨0, 0, 0, 0⟩ : Entry) (step := J7 a) (by omega) (fun i out hi ho => by
  simp only [J7, Qo hi, Qd hi, Qp hi, QtV, Qd (show i < out.length by omega), Int.toNat_natCast, QF (show (i : Int) < 9223372036854775807 by omega), cond_true, Qa, Option.bind_some])
  (fun out => by simp only [J7, Qu (Nat.le_refl _), cond_false])
 unfold QcA
 rw [Vj, QfS h (by omega), Int.toNat_natCast]
 simp only [Qa, hr, List.map_id', Option.bind_some]
theorem QAa (a : Bid) : Qeb a = some a := by first | rfl | (simp only [Qeb, Option.bind_some]; done) | (simp only [Qeb, Option.bind_some]; rfl)
theorem Qqq (a : List Bid) (h : a.length ≤ 1048576) : Qev a = some a := by
 have hr := QcQ a (fun x => x) (⟨0, 0, 0⟩ : Bid) (step := Qaa a) (by omega) (fun i out hi ho => by
  simp only [Qaa, Qo hi, Qd hi, Qp hi, QAa, Qd (show i < out.length by omega), Int.toNat_natCast, QF (show (i : Int) < 9223372036854775807 by omega), cond_true, Qa, Option.bind_some])
  (fun out => by simp only [Qaa, Qu (Nat.le_refl _), cond_false])
 unfold Qev
 rw [Vj, QfS h (by omega), Int.toNat_natCast]
 simp only [Qa, hr, List.map_id', Option.bind_some]
theorem Qq6 (a : Thing) : QdL a a = some true := by simp [QdL]
theorem Ql5 (a : Find) : Qdj a a = some true := by simp [Qdj, Qq6]
theorem Qq9 (a : List Find) (h : a.length ≤ 1048576) : QdK a a = some true := by
 have hr := QcG a (step := Zs a a) (fun i (_ : Unit) => (i : Int)) (fun _ _ _ => some (.inl ())) (fun _ => some (.brk ())) ()
  (fun i s hi => by simp only [Zs, Qo hi, Qd hi, Qp hi, Ql5, QF (show (i : Int) < 9223372036854775807 by omega), cond_true, cond_false, Qa, Option.bind_some, Bool.not_true, Option.map_some, Sum.map_inl, decide_true])
  (fun s => by simp only [Zs, Qu (Nat.le_refl _), cond_false, Option.map_some])
 rw [Zj (g := fun _ _ => ()) a 0 () (fun _ _ _ _ => rfl)] at hr
 unfold QdK
 simp only [decide_true, Bool.not_true, cond_false]
 rw [show ((0 : Int)) = ((0 : Nat) : Int) from rfl, hr]
 rfl
theorem Qsr (a : Mark) : Qeu a a = some true := by simp [Qeu]
theorem Qky (a : List Mark) (h : a.length ≤ 1048576) : Qb6 a a = some true := by
 have hr := QcG a (step := ZF a a) (fun i (_ : Unit) => (i : Int)) (fun _ _ _ => some (.inl ())) (fun _ => some (.brk ())) ()
  (fun i s hi => by simp only [ZF, Qo hi, Qd hi, Qp hi, Qsr, QF (show (i : Int) < 9223372036854775807 by omega), cond_true, cond_false, Qa, Option.bind_some, Bool.not_true, Option.map_some, Sum.map_inl, decide_true])
  (fun s => by simp only [ZF, Qu (Nat.le_refl _), cond_false, Option.map_some])
 rw [Zj (g := fun _ _ => ()) a 0 () (fun _ _ _ _ => rfl)] at hr
 unfold Qb6
 simp only [decide_true, Bool.not_true, cond_false]
 rw [show ((0 : Int)) = ((0 : Nat) : Int) from rfl, hr]
 rfl
theorem QsJ (a : Slot) : Qet a a = some true := by simp [Qet]
theorem Qrq (a : List Slot) (h : a.length ≤ 1048576) : QdS a a = some true := by
 have hr := QcG a (step := Zu a a) (fun i (_ : Unit) => (i : Int)) (fun _ _ _ => some (.inl ())) (fun _ => some (.brk ())) ()
  (fun i s hi => by simp only [Zu, Qo hi, Qd hi, Qp hi, QsJ, QF (show (i : Int) < 9223372036854775807 by omega), cond_true, cond_false, Qa, Option.bind_some, Bool.not_true, Option.map_some, Sum.map_inl, decide_true])
  (fun s => by simp only [Zu, Qu (Nat.le_refl _), cond_false, Option.map_some])
 rw [Zj (g := fun _ _ => ()) a 0 () (fun _ _ _ _ => rfl)] at hr
 unfold QdS
 simp only [decide_true, Bool.not_true, cond_false]
 rw [show ((0 : Int)) = ((0 : Nat) : Int) from rfl, hr]
 rfl
theorem QqN (a : Claim) : Qdq a a = some true := by simp [Qdq]
theorem Qpw (a : List Claim) (h : a.length ≤ 1048576) : QcT a a = some true := by
 have hr := QcG a (step := JV a a) (fun i (_ : Unit) => (i : Int)) (fun _ _ _ => some (.inl ())) (fun _ => some (.brk ())) ()
  (fun i s hi => by simp only [JV, Qo hi, Qd hi, Qp hi, QqN, QF (show (i : Int) < 9223372036854775807 by omega), cond_true, cond_false, Qa, Option.bind_some, Bool.not_true, Option.map_some, Sum.map_inl, decide_true])
  (fun s => by simp only [JV, Qu (Nat.le_refl _), cond_false, Option.map_some])
 rw [Zj (g := fun _ _ => ()) a 0 () (fun _ _ _ _ => rfl)] at hr
 unfold QcT
 simp only [decide_true, Bool.not_true, cond_false]
 rw [show ((0 : Int)) = ((0 : Nat) : Int) from rfl, hr]
 rfl
theorem Qrt (a : Trial) : QdB a a = some true := by simp [QdB]
theorem Qpt (a : List Trial) (h : a.length ≤ 1048576) : QcC a a = some true := by
 have hr := QcG a (step := J2 a a) (fun i (_ : Unit) => (i : Int)) (fun _ _ _ => some (.inl ())) (fun _ => some (.brk ())) ()
  (fun i s hi => by simp only [J2, Qo hi, Qd hi, Qp hi, Qrt, QF (show (i : Int) < 9223372036854775807 by omega), cond_true, cond_false, Qa, Option.bind_some, Bool.not_true, Option.map_some, Sum.map_inl, decide_true])
  (fun s => by simp only [J2, Qu (Nat.le_refl _), cond_false, Option.map_some])
 rw [Zj (g := fun _ _ => ()) a 0 () (fun _ _ _ _ => rfl)] at hr
 unfold QcC
 simp only [decide_true, Bool.not_true, cond_false]
 rw [show ((0 : Int)) = ((0 : Nat) : Int) from rfl, hr]
 rfl
theorem QrQ (a : Hand) : Qep a a = some true := by simp [Qep]
theorem Qri (a : List Hand) (h : a.length ≤ 1048576) : QdO a a = some true := by
 have hr := QcG a (step := ZE a a) (fun i (_ : Unit) => (i : Int)) (fun _ _ _ => some (.inl ())) (fun _ => some (.brk ())) ()
  (fun i s hi => by simp only [ZE, Qo hi, Qd hi, Qp hi, QrQ, QF (show (i : Int) < 9223372036854775807 by omega), cond_true, cond_false, Qa, Option.bind_some, Bool.not_true, Option.map_some, Sum.map_inl, decide_true])
  (fun s => by simp only [ZE, Qu (Nat.le_refl _), cond_false, Option.map_some])
 rw [Zj (g := fun _ _ => ()) a 0 () (fun _ _ _ _ => rfl)] at hr
 unfold QdO
 simp only [decide_true, Bool.not_true, cond_false]
 rw [show ((0 : Int)) = ((0 : Nat) : Int) from rfl, hr]
 rfl
theorem Qq4 (a : Entry) : Qdv a a = some true := by simp [Qdv]
theorem Qpo (a : List Entry) (h : a.length ≤ 1048576) : QcZ a a = some true := by
 have hr := QcG a (step := JZ a a) (fun i (_ : Unit) => (i : Int)) (fun _ _ _ => some (.inl ())) (fun _ => some (.brk ())) ()
  (fun i s hi => by simp only [JZ, Qo hi, Qd hi, Qp hi, Qq4, QF (show (i : Int) < 9223372036854775807 by omega), cond_true, cond_false, Qa, Option.bind_some, Bool.not_true, Option.map_some, Sum.map_inl, decide_true])
  (fun s => by simp only [JZ, Qu (Nat.le_refl _), cond_false, Option.map_some])
 rw [Zj (g := fun _ _ => ()) a 0 () (fun _ _ _ _ => rfl)] at hr
 unfold QcZ
 simp only [decide_true, Bool.not_true, cond_false]
 rw [show ((0 : Int)) = ((0 : Nat) : Int) from rfl, hr]
 rfl
theorem Que (a : Bid) : Qe0 a a = some true := by simp [Qe0]
theorem Qr2 (a : List Bid) (h : a.length ≤ 1048576) : Qer a a = some true := by
 have hr := QcG a (step := Qau a a) (fun i (_ : Unit) => (i : Int)) (fun _ _ _ => some (.inl ())) (fun _ => some (.brk ())) ()
  (fun i s hi => by simp only [Qau, Qo hi, Qd hi, Qp hi, Que, QF (show (i : Int) < 9223372036854775807 by omega), cond_true, cond_false, Qa, Option.bind_some, Bool.not_true, Option.map_some, Sum.map_inl, decide_true])
  (fun s => by simp only [Qau, Qu (Nat.le_refl _), cond_false, Option.map_some])
 rw [Zj (g := fun _ _ => ()) a 0 () (fun _ _ _ _ => rfl)] at hr
 unfold Qer
 simp only [decide_true, Bool.not_true, cond_false]
 rw [show ((0 : Int)) = ((0 : Nat) : Int) from rfl, hr]
 rfl
def smL {α : Type} (ok : α → Prop) (l : List α) : Prop := l.length ≤ 1048576 ∧ ∀ x ∈ l, ok x
theorem Qfz {n : Nat} {left : Int} (hn : (n : Int) ≤ 9223372036854775807) (h0 : 0 ≤ left) (h1 : left ≤ 1048576) :
  ∃ r, (bif (decide (w64 (left - (n : Int)) < 0)) then some (-1) else some (w64 (left - (n : Int)))) = some r ∧ r ≤ left ∧ (r = -1 ∨ (0 ≤ r ∧ n ≤ 1048576)) := by
 rw [Q9 (by omega) (by omega)]
 by_cases h : left - (n : Int) < 0
 ·exact ⟨-1, by rw [decide_eq_true h]; rfl, by omega, .inl rfl⟩
 ·exact ⟨left - n, by rw [decide_eq_false h]; rfl, by omega, .inr ⟨by omega, by omega⟩⟩
theorem QxL {α : Type} {l : List α} {sm : α → Prop} {sz : α → Int → Option Int} {step : (Int × Int) → Option ((Int × Int) ⊕ (Fl Int Int))}
  (hsz : ∀ x ∈ l, ∀ left, 0 ≤ left → left ≤ 1048576 → ∃ r, sz x left = some r ∧ r ≤ left ∧ (r = -1 ∨ (0 ≤ r ∧ sm x)))
  (h1 : ∀ (i : Nat) (left : Int) (h : i < l.length), step (left, (i : Int)) = (sz l[i] left).bind fun r => (bif (decide (r < 0)) then some (.inr (.ret (-1))) else some (.inl (r, ((i + 1 : Nat) : Int)))))
  (h2 : ∀ left, step (left, (l.length : Int)) = some (.inr (.brk left))) :
  ∀ (m i : Nat) (left : Int), i + m = l.length → 0 ≤ left → left ≤ 1048576 → ∃ c, run step (left, (i : Int)) = some c ∧ (c = .ret (-1) ∨ ∃ r, c = .brk r ∧ 0 ≤ r ∧ r ≤ left ∧ ∀ x ∈ l.drop i, sm x) := by
 intro m
 induction m with
 | zero =>
  intro i left hi g0 g1
  have : i = l.length := by omega
  subst this
  exact ⟨.brk left, by rw [Qt, h2]; rfl, .inr ⟨left, rfl, g0, Int.le_refl _, by simp⟩⟩
 | succ m ih =>
  intro i left hi g0 g1
  have hlt : i < l.length := by omega
  obtain ⟨r, e, hr, h | ⟨h, hs⟩⟩ := hsz l[i] (List.getElem_mem hlt) left g0 g1
  ·subst h
   exact ⟨.ret (-1), by rw [Qt, h1 i left hlt, e]; rfl, .inl rfl⟩
  ·obtain ⟨c, e2, h2⟩ := ih (i + 1) r (by omega) h (by omega)
   have hd : decide (r < 0) = false := decide_eq_false (by omega)
   refine ⟨c, by rw [Qt, h1 i left hlt, e]; simp only [Option.bind_some, hd, cond_false]; exact e2, ?_⟩
   rcases h2 with h2 | ⟨r', h2, h3, h4, h5⟩
   ·exact .inl h2
   ·refine .inr ⟨r', h2, h3, by omega, fun x hx => ?_⟩
    rw [List.drop_eq_getElem_cons hlt] at hx
    rcases List.mem_cons.1 hx with rfl | hx
    ·exact hs
    ·exact h5 x hx
theorem QtB (a : List Find) (left : Int) (ha : a.length ≤ 9223372036854775807) (h0 : 0 ≤ left) (h1 : left ≤ 1048576) : ∃ r, QdF a left = some r ∧ r ≤ left ∧ (r = -1 ∨ (0 ≤ r ∧ a.length ≤ 1048576)) := by
 unfold QdF; rw [Vj]; exact Qfz (by omega) h0 h1
theorem Qpg (a : List Mark) (left : Int) (ha : a.length ≤ 9223372036854775807) (h0 : 0 ≤ left) (h1 : left ≤ 1048576) : ∃ r, Qcn a left = some r ∧ r ≤ left ∧ (r = -1 ∨ (0 ≤ r ∧ a.length ≤ 1048576)) := by
 unfold Qcn; rw [Vj]; exact Qfz (by omega) h0 h1
def Xf (x : Secret) : Prop := x.Marks.length ≤ 1048576
theorem QsQ (a : Secret) (left : Int) (ha : Qhp a) (h0 : 0 ≤ left) (h1 : left ≤ 1048576) : ∃ r, Qbm a left = some r ∧ r ≤ left ∧ (r = -1 ∨ (0 ≤ r ∧ Xf a)) := by
 obtain ⟨q0, q1, q2⟩ := ha
 unfold Qbm
 obtain ⟨r1, e1, l1, h | ⟨p1, s1⟩⟩ := Qpg a.Marks left q1.1 h0 (by omega)
 ·subst h; exact ⟨-1, by simp only [e1, Option.bind_some, cond_false]; rfl, by omega, .inl rfl⟩
 exact ⟨r1, by simp only [e1, decide_eq_false (show ¬ r1 < 0 by omega), Option.bind_some, cond_false], by omega, .inr ⟨p1, s1⟩⟩
theorem Qrw (a : List Secret) (left : Int) (ha : (okL Qhp) a) (h0 : 0 ≤ left) (h1 : left ≤ 1048576) : ∃ r, QbW a left = some r ∧ r ≤ left ∧ (r = -1 ∨ (0 ≤ r ∧ smL Xf a)) := by
 have hl := ha.1
 unfold QbW
 rw [Vj, Q9 (by omega) (by omega)]
 by_cases h : left - (a.length : Int) < 0
 ·exact ⟨-1, by rw [decide_eq_true h]; rfl, by omega, .inl rfl⟩
 rw [decide_eq_false h]
 obtain ⟨c, e, hc⟩ := QxL (l := a) (sm := Xf) (sz := Qbm) (step := Jh a) (fun x hx left g0 g1 => QsQ x left (ha.2 x hx) g0 g1)
  (fun i left hi => by simp only [Jh, Qo hi, Qd hi, Qp hi, QF (show (i : Int) < 9223372036854775807 by omega), cond_true, Qa])
  (fun left => by simp only [Jh, Qu (Nat.le_refl _), cond_false]) a.length 0 (left - a.length) (by omega) (by omega) (by omega)
 rcases hc with rfl | ⟨r, rfl, g0, g1, g2⟩
 ·exact ⟨-1, by simp only [cond_false]; rw [show (0 : Int) = ((0 : Nat) : Int) from rfl, e]; rfl, by omega, .inl rfl⟩
 ·exact ⟨r, by simp only [cond_false]; rw [show (0 : Int) = ((0 : Nat) : Int) from rfl, e]; rfl, by omega, .inr ⟨g0, by omega, by simpa using g2⟩⟩
theorem Qtm (a : List Slot) (left : Int) (ha : a.length ≤ 9223372036854775807) (h0 : 0 ≤ left) (h1 : left ≤ 1048576) : ∃ r, Qdz a left = some r ∧ r ≤ left ∧ (r = -1 ∨ (0 ≤ r ∧ a.length ≤ 1048576)) := by
 unfold Qdz; rw [Vj]; exact Qfz (by omega) h0 h1
theorem Qs6 (a : List Claim) (left : Int) (ha : a.length ≤ 9223372036854775807) (h0 : 0 ≤ left) (h1 : left ≤ 1048576) : ∃ r, QcY a left = some r ∧ r ≤ left ∧ (r = -1 ∨ (0 ≤ r ∧ a.length ≤ 1048576)) := by
 unfold QcY; rw [Vj]; exact Qfz (by omega) h0 h1
theorem Qs3 (a : List Trial) (left : Int) (ha : a.length ≤ 9223372036854775807) (h0 : 0 ≤ left) (h1 : left ≤ 1048576) : ∃ r, QcF a left = some r ∧ r ≤ left ∧ (r = -1 ∨ (0 ≤ r ∧ a.length ≤ 1048576)) := by
 unfold QcF; rw [Vj]; exact Qfz (by omega) h0 h1
theorem Qt0 (a : List Hand) (left : Int) (ha : a.length ≤ 9223372036854775807) (h0 : 0 ≤ left) (h1 : left ≤ 1048576) : ∃ r, QdI a left = some r ∧ r ≤ left ∧ (r = -1 ∨ (0 ≤ r ∧ a.length ≤ 1048576)) := by
 unfold QdI; rw [Vj]; exact Qfz (by omega) h0 h1
theorem QsD (a : List Entry) (left : Int) (ha : a.length ≤ 9223372036854775807) (h0 : 0 ≤ left) (h1 : left ≤ 1048576) : ∃ r, QcL a left = some r ∧ r ≤ left ∧ (r = -1 ∨ (0 ≤ r ∧ a.length ≤ 1048576)) := by
 unfold QcL; rw [Vj]; exact Qfz (by omega) h0 h1
def Qm (x : House) : Prop := x.Finds.length ≤ 1048576 ∧ smL Xf x.Secrets ∧ x.Slots.length ≤ 1048576 ∧ x.Claims.length ≤ 1048576 ∧ x.Trials.length ≤ 1048576 ∧ x.Chain.length ≤ 1048576 ∧ x.Book.length ≤ 1048576
theorem QtM (a : House) (left : Int) (ha : Qni a) (h0 : 0 ≤ left) (h1 : left ≤ 1048576) : ∃ r, Qdu a left = some r ∧ r ≤ left ∧ (r = -1 ∨ (0 ≤ r ∧ Qm a)) := by
 obtain ⟨q0, q1, q2, q3, q4, q5, q6, q7, q8⟩ := ha
 unfold Qdu
 obtain ⟨r1, e1, l1, h | ⟨p1, s1⟩⟩ := QtB a.Finds left q1.1 h0 (by omega)
 ·subst h; exact ⟨-1, by simp only [e1, Option.bind_some, cond_false]; rfl, by omega, .inl rfl⟩
 obtain ⟨r2, e2, l2, h | ⟨p2, s2⟩⟩ := Qrw a.Secrets r1 q2 p1 (by omega)
 ·subst h; exact ⟨-1, by simp only [e1, e2, decide_eq_false (show ¬ r1 < 0 by omega), Option.bind_some, cond_false]; rfl, by omega, .inl rfl⟩
 obtain ⟨r3, e3, l3, h | ⟨p3, s3⟩⟩ := Qtm a.Slots r2 q3.1 p2 (by omega)
 ·subst h; exact ⟨-1, by simp only [e1, e2, e3, decide_eq_false (show ¬ r1 < 0 by omega), decide_eq_false (show ¬ r2 < 0 by omega), Option.bind_some, cond_false]; rfl, by omega, .inl rfl⟩
 obtain ⟨r4, e4, l4, h | ⟨p4, s4⟩⟩ := Qs6 a.Claims r3 q4.1 p3 (by omega)
 ·subst h; exact ⟨-1, by simp only [e1, e2, e3, e4, decide_eq_false (show ¬ r1 < 0 by omega), decide_eq_false (show ¬ r2 < 0 by omega), decide_eq_false (show ¬ r3 < 0 by omega), Option.bind_some, cond_false]; rfl, by omega, .inl rfl⟩
 obtain ⟨r5, e5, l5, h | ⟨p5, s5⟩⟩ := Qs3 a.Trials r4 q5.1 p4 (by omega)
 ·subst h; exact ⟨-1, by simp only [e1, e2, e3, e4, e5, decide_eq_false (show ¬ r1 < 0 by omega), decide_eq_false (show ¬ r2 < 0 by omega), decide_eq_false (show ¬ r3 < 0 by omega), decide_eq_false (show ¬ r4 < 0 by omega), Option.bind_some, cond_false]; rfl, by omega, .inl rfl⟩
 obtain ⟨r6, e6, l6, h | ⟨p6, s6⟩⟩ := Qt0 a.Chain r5 q6.1 p5 (by omega)
 ·subst h; exact ⟨-1, by simp only [e1, e2, e3, e4, e5, e6, decide_eq_false (show ¬ r1 < 0 by omega), decide_eq_false (show ¬ r2 < 0 by omega), decide_eq_false (show ¬ r3 < 0 by omega), decide_eq_false (show ¬ r4 < 0 by omega), decide_eq_false (show ¬ r5 < 0 by omega), Option.bind_some, cond_false]; rfl, by omega, .inl rfl⟩
 obtain ⟨r7, e7, l7, h | ⟨p7, s7⟩⟩ := QsD a.Book r6 q7.1 p6 (by omega)
 ·subst h; exact ⟨-1, by simp only [e1, e2, e3, e4, e5, e6, e7, decide_eq_false (show ¬ r1 < 0 by omega), decide_eq_false (show ¬ r2 < 0 by omega), decide_eq_false (show ¬ r3 < 0 by omega), decide_eq_false (show ¬ r4 < 0 by omega), decide_eq_false (show ¬ r5 < 0 by omega), decide_eq_false (show ¬ r6 < 0 by omega), Option.bind_some, cond_false]; rfl, by omega, .inl rfl⟩
 exact ⟨r7, by simp only [e1, e2, e3, e4, e5, e6, e7, decide_eq_false (show ¬ r1 < 0 by omega), decide_eq_false (show ¬ r2 < 0 by omega), decide_eq_false (show ¬ r3 < 0 by omega), decide_eq_false (show ¬ r4 < 0 by omega), decide_eq_false (show ¬ r5 < 0 by omega), decide_eq_false (show ¬ r6 < 0 by omega), decide_eq_false (show ¬ r7 < 0 by omega), Option.bind_some, cond_false], by omega, .inr ⟨p7, ⟨s1, s2, s3, s4, s5, s6, s7⟩⟩⟩
theorem Qwn (a : List Bid) (left : Int) (ha : a.length ≤ 9223372036854775807) (h0 : 0 ≤ left) (h1 : left ≤ 1048576) : ∃ r, QeD a left = some r ∧ r ≤ left ∧ (r = -1 ∨ (0 ≤ r ∧ a.length ≤ 1048576)) := by
 unfold QeD; rw [Vj]; exact Qfz (by omega) h0 h1
def Qbx (x : Event) : Prop := x.Marks.length ≤ 1048576 ∧ x.Bids.length ≤ 1048576
theorem QuE (a : Event) (left : Int) (ha : Qh2 a) (h0 : 0 ≤ left) (h1 : left ≤ 1048576) : ∃ r, Qca a left = some r ∧ r ≤ left ∧ (r = -1 ∨ (0 ≤ r ∧ Qbx a)) := by
 obtain ⟨q0, q1, q2, q3, q4, q5, q6⟩ := ha
 unfold Qca
 obtain ⟨r2, e2, l2, h | ⟨p2, s2⟩⟩ := Qpg a.Marks left q2.1 h0 (by omega)
 ·subst h; exact ⟨-1, by simp only [e2, Option.bind_some, cond_false]; rfl, by omega, .inl rfl⟩
 obtain ⟨r6, e6, l6, h | ⟨p6, s6⟩⟩ := Qwn a.Bids r2 q6.1 p2 (by omega)
 ·subst h; exact ⟨-1, by simp only [e2, e6, decide_eq_false (show ¬ r2 < 0 by omega), Option.bind_some, cond_false]; rfl, by omega, .inl rfl⟩
 exact ⟨r6, by simp only [e2, e6, decide_eq_false (show ¬ r2 < 0 by omega), decide_eq_false (show ¬ r6 < 0 by omega), Option.bind_some, cond_false], by omega, .inr ⟨p6, ⟨s2, s6⟩⟩⟩
theorem Qst (a : List Event) (left : Int) (ha : (okL Qh2) a) (h0 : 0 ≤ left) (h1 : left ≤ 1048576) : ∃ r, QcH a left = some r ∧ r ≤ left ∧ (r = -1 ∨ (0 ≤ r ∧ smL Qbx a)) := by
 have hl := ha.1
 unfold QcH
 rw [Vj, Q9 (by omega) (by omega)]
 by_cases h : left - (a.length : Int) < 0
 ·exact ⟨-1, by rw [decide_eq_true h]; rfl, by omega, .inl rfl⟩
 rw [decide_eq_false h]
 obtain ⟨c, e, hc⟩ := QxL (l := a) (sm := Qbx) (sz := Qca) (step := J0 a) (fun x hx left g0 g1 => QuE x left (ha.2 x hx) g0 g1)
  (fun i left hi => by simp only [J0, Qo hi, Qd hi, Qp hi, QF (show (i : Int) < 9223372036854775807 by omega), cond_true, Qa])
  (fun left => by simp only [J0, Qu (Nat.le_refl _), cond_false]) a.length 0 (left - a.length) (by omega) (by omega) (by omega)
 rcases hc with rfl | ⟨r, rfl, g0, g1, g2⟩
 ·exact ⟨-1, by simp only [cond_false]; rw [show (0 : Int) = ((0 : Nat) : Int) from rfl, e]; rfl, by omega, .inl rfl⟩
 ·exact ⟨r, by simp only [cond_false]; rw [show (0 : Int) = ((0 : Nat) : Int) from rfl, e]; rfl, by omega, .inr ⟨g0, by omega, by simpa using g2⟩⟩
theorem QrN (a : Secret) (h : Xf a) : Qbn a = some a := by
 unfold Xf at h
 have s1 := h
 first | (simp only [Qbn, Qgy _ s1, Option.bind_some]; done) | (simp only [Qbn, Qgy _ s1, Option.bind_some]; rfl)
theorem Qkv (a : List Secret) (h : smL Xf a) : QbD a = some a := by
 have hl := h.1
 have hr := QcQ a (fun x => x) (⟨0, [], 0⟩ : Secret) (step := Jk a) (by omega) (fun i out hi ho => by
  simp only [Jk, Qo hi, Qd hi, Qp hi, QrN _ (h.2 _ (List.getElem_mem hi)), Qd (show i < out.length by omega), Int.toNat_natCast, QF (show (i : Int) < 9223372036854775807 by omega), cond_true, Qa, Option.bind_some])
  (fun out => by simp only [Jk, Qu (Nat.le_refl _), cond_false])
 unfold QbD
 rw [Vj, QfS hl (by omega), Int.toNat_natCast]
 simp only [Qa, hr, List.map_id', Option.bind_some]
theorem Qut (a : House) (h : Qm a) : JI a = some a := by
 unfold Qm at h
 obtain ⟨s1, s2, s3, s4, s5, s6, s7⟩ := h
 first | (simp only [JI, QoA _ s1, Qkv _ s2, Qob _ s3, Qma _ s4, Qmb _ s5, Qom _ s6, Qmg _ s7, Option.bind_some]; done) | (simp only [JI, QoA _ s1, Qkv _ s2, Qob _ s3, Qma _ s4, Qmb _ s5, Qom _ s6, Qmg _ s7, Option.bind_some]; rfl)
theorem Qun (a : Event) (h : Qbx a) : Qb2 a = some a := by
 unfold Qbx at h
 obtain ⟨s2, s6⟩ := h
 first | (simp only [Qb2, Qk4, Qgy _ s2, Qqq _ s6, Option.bind_some]; done) | (simp only [Qb2, Qk4, Qgy _ s2, Qqq _ s6, Option.bind_some]; rfl)
theorem Qsd (a : List Event) (h : smL Qbx a) : JL a = some a := by
 have hl := h.1
 have hr := QcQ a (fun x => x) (⟨0, ⟨⟨0, 0, 0, 0, 0⟩, 0, 0, 0⟩, [], 0, 0, 0, []⟩ : Event) (step := J4 a) (by omega) (fun i out hi ho => by
  simp only [J4, Qo hi, Qd hi, Qp hi, Qun _ (h.2 _ (List.getElem_mem hi)), Qd (show i < out.length by omega), Int.toNat_natCast, QF (show (i : Int) < 9223372036854775807 by omega), cond_true, Qa, Option.bind_some])
  (fun out => by simp only [J4, Qu (Nat.le_refl _), cond_false])
 unfold JL
 rw [Vj, QfS hl (by omega), Int.toNat_natCast]
 simp only [Qa, hr, List.map_id', Option.bind_some]
theorem QpI (a : Secret) (h : Xf a) : QcB a a = some true := by
 unfold Xf at h
 have s1 := h
 simp [QcB, Qky _ s1]
theorem Qns (a : List Secret) (h : smL Xf a) : QbI a a = some true := by
 have hl := h.1
 have hr := QcG a (step := Jf a a) (fun i (_ : Unit) => (i : Int)) (fun _ _ _ => some (.inl ())) (fun _ => some (.brk ())) ()
  (fun i s hi => by simp only [Jf, Qo hi, Qd hi, Qp hi, QpI _ (h.2 _ (List.getElem_mem hi)), QF (show (i : Int) < 9223372036854775807 by omega), cond_true, cond_false, Qa, Option.bind_some, Bool.not_true, Option.map_some, Sum.map_inl, decide_true])
  (fun s => by simp only [Jf, Qu (Nat.le_refl _), cond_false, Option.map_some])
 rw [Zj (g := fun _ _ => ()) a 0 () (fun _ _ _ _ => rfl)] at hr
 unfold QbI
 simp only [decide_true, Bool.not_true, cond_false]
 rw [show ((0 : Int)) = ((0 : Nat) : Int) from rfl, hr]
 rfl
theorem Qjz (a : House) (h : Qm a) : ZM a a = some true := by
 unfold Qm at h
 obtain ⟨s1, s2, s3, s4, s5, s6, s7⟩ := h
 simp [ZM, Qq9 _ s1, Qns _ s2, Qrq _ s3, Qpw _ s4, Qpt _ s5, Qri _ s6, Qpo _ s7]
theorem QqF (a : Event) (h : Qbx a) : QdA a a = some true := by
 unfold Qbx at h
 obtain ⟨s2, s6⟩ := h
 simp [QdA, Ql5, Qky _ s2, Qr2 _ s6]
theorem QpL (a : List Event) (h : smL Qbx a) : QcD a a = some true := by
 have hl := h.1
 have hr := QcG a (step := J1 a a) (fun i (_ : Unit) => (i : Int)) (fun _ _ _ => some (.inl ())) (fun _ => some (.brk ())) ()
  (fun i s hi => by simp only [J1, Qo hi, Qd hi, Qp hi, QqF _ (h.2 _ (List.getElem_mem hi)), QF (show (i : Int) < 9223372036854775807 by omega), cond_true, cond_false, Qa, Option.bind_some, Bool.not_true, Option.map_some, Sum.map_inl, decide_true])
  (fun s => by simp only [J1, Qu (Nat.le_refl _), cond_false, Option.map_some])
 rw [Zj (g := fun _ _ => ()) a 0 () (fun _ _ _ _ => rfl)] at hr
 unfold QcD
 simp only [decide_true, Bool.not_true, cond_false]
 rw [show ((0 : Int)) = ((0 : Nat) : Int) from rfl, hr]
 rfl
end Go.Proofs.YtcdffihcfeajfaaGreat
