import Derived.Test.YtcdffihcfeajfaaGreatPyHs
namespace Go.Proofs.YtcdffihcfeajfaaGreat
open Go
set_option linter.unusedVariables false
set_option linter.unusedSimpArgs false
noncomputable def QaH (h : House) : Bool := (Vx h).getD false
theorem Qcc (h : House) (hm : QZ h) : XS h = some (QaH h) ∧ Vx h = some (QaH h) := by
 obtain ⟨c, c1, c2⟩ := Qru h hm
 unfold QaH
 rw [c1, c2]
 exact ⟨rfl, rfl⟩
theorem QsM (h : House) (hm : QZ h) (hb : QaH h = true) : HouseOk h := Qvp h hm (by rw [(Qcc h hm).2, hb])
theorem Qns (l : List Secret) (hl : smL Xz l) : JF l = some l := by
 have hlen := hl.1
 have h1 := Qbv (step := Vo l (ln l)) (fun i => (l.take i, (i : Int))) (r := l) l.length (fun i hi => by
   have hm : l[i].Marks.length ≤ 1048576 := hl.2 _ (List.getElem_mem hi)
   have hr1 : rm (0 + l[i].Marks.length) 16 = true := V9 (by omega) (by omega)
   have hr2 : rm ((l.take i).length + 1) 40 = true := V9 (by rw [List.length_take]; omega) (by omega)
   simp only [Vo, Xx, Qu hi, Qg hi, Qz hi, hr1, hr2, cond_true, Qa, Option.bind_some, QP (show (i : Int) < 9223372036854775807 by omega)]
   rw [List.take_succ_eq_append_getElem hi])
  (by simp only [Vo, Qx (Nat.le_refl _), cond_false, List.take_length])
 unfold JF
 rw [show run (Vo l (ln l)) ([], 0) = _ from by simpa using h1]; rfl
theorem Qgt (h : House) (hm : QZ h) : XI h = some h := by
 obtain ⟨m1, m2, m3, m4, m5, m6, m7⟩ := hm
 unfold XI Z4 Xm Zs Zu Vl VB
 simp only [Qns _ m2, V9 (show 0 + h.Finds.length ≤ 2000000 by omega) (show 64 ≤ 1024 by omega), V9 (show 0 + h.Slots.length ≤ 2000000 by omega) (show 24 ≤ 1024 by omega), V9 (show 0 + h.Claims.length ≤ 2000000 by omega) (show 40 ≤ 1024 by omega),
  V9 (show 0 + h.Trials.length ≤ 2000000 by omega) (show 32 ≤ 1024 by omega), V9 (show 0 + h.Chain.length ≤ 2000000 by omega) (show 40 ≤ 1024 by omega), V9 (show 0 + h.Book.length ≤ 2000000 by omega) (show 32 ≤ 1024 by omega), Qa, Option.bind_some]
theorem Qu8 (l : List Bool) (hl : l.length ≤ 1048576) : Xh l false = some (!l.all id) := by
 have hr := ZN l (fun x => decide (false = x)) (fun i => (i : Int)) (step := VD l false (ln l))
  (fun i hi => by
   simp only [VD, Qu hi, Qg hi, Qz hi, QP (show (i : Int) < 9223372036854775807 by omega), cond_true, Qa]
   cases decide (false = l[i]) <;> rfl)
  (by simp only [VD, Qx (Nat.le_refl _), cond_false])
 unfold Xh Z3
 rw [hr]
 have hall : l.all id = (l.findIdx? (fun x => decide (false = x))).isNone := by
  cases hf : l.findIdx? (fun x => decide (false = x)) with
  | none =>
   rw [List.findIdx?_eq_none_iff] at hf
   simp only [Option.isNone_none, List.all_eq_true]
   intro x hx
   have := hf x hx
   cases x <;> simp at this ⊢
  | some i =>
   obtain ⟨hlt, hp⟩ := QcM hf
   simp only [Option.isNone_some]
   rw [List.all_eq_false]
   exact ⟨l[i], List.getElem_mem hlt, by simp at hp; simp [← hp]⟩
 rw [hall]
 cases l.findIdx? (fun x => decide (false = x)) with
 | none => rfl
 | some i =>
  simp only [Option.bind_some, evO]
  rw [decide_eq_true (show (0 : Int) ≤ (i : Int) by omega)]; rfl
noncomputable def QdF (h out : House) (ok : Bool) : House × Bool := bif ok && (QaH h && QaH out) then (out, true) else (h, false)
theorem Qj1 (h out : House) (ok : Bool) (hm : QZ h) (ho : QZ out) : QZ (QdF h out ok).1 := by
 unfold QdF
 cases ok && (QaH h && QaH out) <;> assumption
theorem QiY (h out : House) : QdF h out false = (h, false) := rfl
theorem QBl (h out : House) (ok : Bool) (hb : QaH h = false) : QdF h out ok = (h, false) := by
 unfold QdF; rw [hb]; cases ok <;> rfl
theorem Qw6 (h out : House) (ok : Bool) (hm : QZ h) (ho : QZ out) : Xc h out ok = some (QdF h out ok) := by
 unfold Xc QdF
 simp only [(Qcc h hm).1, (Qcc out ho).1, Qnr h hm, Option.bind_some]
 cases ok <;> cases QaH h <;> cases QaH out <;> rfl
theorem smH {h : House} (hm : QZ h) {f : List Find} {s : List Secret} {t : List Slot} {c : List Claim} {r : List Trial} {n : List Hand} {b : List Entry} {k : Int} (h1 : f.length ≤ 1048576) (h2 : smL Xz s) (h3 : t.length ≤ 1048576) (h4 : c.length ≤ 1048576) (h5 : r.length ≤ 1048576) (h6 : n.length ≤ 1048576) (h7 : b.length ≤ 1048576) :
  QZ ⟨h.No, f, s, t, c, r, n, b, k⟩ := ⟨h1, h2, h3, h4, h5, h6, h7⟩
end Go.Proofs.YtcdffihcfeajfaaGreat
