import Derived.Test.YtcdffihcfeajfaaGreatPyIsH4
namespace Go.Proofs.YtcdffihcfeajfaaGreat
open Go
set_option linter.unusedVariables false
set_option linter.unusedSimpArgs false
structure HouseOk (h : House) : Prop where
 no : 1 ≤ h.No ∧ h.No ≤ 9
 now : 0 ≤ h.Now ∧ h.Now ≤ 100000
 fS : XW h.Finds = some true
 fI : ZU h.Finds = some true
 sS : JB h.Secrets = some true
 sI : Jr h.Secrets = some true
 tS : JT h.Slots = some true
 tI : JS h.Slots = some true
 cS : Vn h.Claims = some true
 cI : Zd h.Claims = some true
 nS : Vr h.Chain = some true
 nI : Vp h.Chain = some true
 eS : XN h.Book = some true
 eI : XK h.Book = some true
 kept : Zq h = some true
 trials : Jh h = some true
 lateF : ∀ x ∈ h.Finds, x.At ≤ h.Now
 lateC : ∀ x ∈ h.Claims, x.At ≤ h.Now
 lateN : ∀ x ∈ h.Chain, x.At ≤ h.Now
 lateE : ∀ x ∈ h.Book, x.At ≤ h.Now
theorem Qvp (h : House) (hm : QZ h) (ht : Vx h = some true) : HouseOk h := by
 obtain ⟨m1, m2, m3, m4, m5, m6, m7⟩ := hm
 obtain ⟨f, f1, f2, f3⟩ := Qoh h.Finds m1
 obtain ⟨s, s1, s2⟩ := QkH h.Secrets m2.1 (fun x hx => m2.2 x hx)
 obtain ⟨t, t1, t2, t3⟩ := Qpt h.Slots m3
 obtain ⟨c, c1, c2, c3⟩ := QmF h.Claims m4
 obtain ⟨n, n1, n2, n3⟩ := QnT h.Chain
 obtain ⟨e, e1, e2, e3⟩ := Qkq h.Book m7
 unfold Vx at ht
 simp only [Qb, f2, s2, t2, c2, n2, e2, Option.bind_some] at ht
 cases hN : (decide (1 ≤ h.No) && decide (h.No ≤ 9)) with
 | false => rw [hN] at ht; cases ht
 | true =>
 rw [hN] at ht
 cases f with
 | false => cases ht
 | true =>
 cases s with
 | false => cases ht
 | true =>
 cases t with
 | false => cases ht
 | true =>
 cases c with
 | false => cases ht
 | true =>
 cases n with
 | false => cases ht
 | true =>
 cases e with
 | false => cases ht
 | true =>
 obtain ⟨k, k1, k2⟩ := kept h m1 m3 (n3 rfl).1 (f3 rfl).2 (t3 rfl).2 n1 n2
 obtain ⟨r, r1, r2⟩ := trials h m1 m2.1 (fun x hx => m2.2 x hx) m4 (c3 rfl).2
 obtain ⟨v, v1, v2⟩ := Qup h h.Now m1 m4 m6 m7
 simp only [k1, r1, v1, cond_true, Option.bind_some] at ht
 cases k with
 | false => cases ht
 | true =>
 cases r with
 | false => cases ht
 | true =>
 simp only [cond_true, Option.bind_some] at ht
 cases hv : decide (v ≤ h.Now) with
 | false => rw [hv] at ht; cases ht
 | true =>
 rw [hv] at ht
 have hv' : v ≤ h.Now := of_decide_eq_true hv
 obtain ⟨g0, g1, g2, g3, g4⟩ := v2.1 hv'
 simp only [cond_true, Option.bind_some, Option.some.injEq, Bool.and_eq_true, decide_eq_true_eq] at ht hN
 exact ⟨hN, ht, f1, f2, s1, s2, t1, t2, c1, c2, n1, n2, e1, e2, k1, r1, g1, g2, g3, g4⟩
theorem QBm (h : House) (hm : QZ h) (ht : XS h = some true) : Vx h = some true := by
 obtain ⟨c, c1, c2⟩ := Qru h hm
 rw [c1] at ht; rw [c2]; exact ht
theorem QwF (l : List Secret) (hl : smL Xz l) : QbV l = some l := by
 have hlen := hl.1
 have h1 := Qbv (step := XL l) (fun i => (l.take i, (i : Int))) (r := l) l.length (fun i hi => by
   have hm : l[i].Marks.length ≤ 1048576 := hl.2 _ (List.getElem_mem hi)
   have hr1 : rm l[i].Marks.length 16 = true := V9 (by omega) (by omega)
   have hr2 : rm ((l.take i).length + 1) 40 = true := V9 (by rw [List.length_take]; omega) (by omega)
   simp only [XL, Qu hi, Qg hi, Qz hi, hr1, hr2, cond_true, Qa, QP (show (i : Int) < 9223372036854775807 by omega)]
   rw [List.take_succ_eq_append_getElem hi])
  (by simp only [XL, Qx (Nat.le_refl _), cond_false, List.take_length])
 unfold QbV
 rw [show run (XL l) ([], 0) = _ from by simpa using h1]; rfl
theorem Qnr (h : House) (hm : QZ h) : Zn h = some h := by
 obtain ⟨m1, m2, m3, m4, m5, m6, m7⟩ := hm
 unfold Zn
 simp only [QwF _ m2, V9 (show h.Finds.length ≤ 2000000 by omega) (show 64 ≤ 1024 by omega), V9 (show h.Slots.length ≤ 2000000 by omega) (show 24 ≤ 1024 by omega), V9 (show h.Claims.length ≤ 2000000 by omega) (show 40 ≤ 1024 by omega),
  V9 (show h.Trials.length ≤ 2000000 by omega) (show 32 ≤ 1024 by omega), V9 (show h.Chain.length ≤ 2000000 by omega) (show 40 ≤ 1024 by omega), V9 (show h.Book.length ≤ 2000000 by omega) (show 32 ≤ 1024 by omega), Qa, Option.bind_some]
end Go.Proofs.YtcdffihcfeajfaaGreat
