import Derived.Test.YtponohekgnklkaaGreatPz5
import Derived.Test.YtponohekgnklkaaGreatPySelf
namespace Go.Proofs.YtponohekgnklkaaGreat
open Go
set_option linter.unusedVariables false
set_option linter.unusedSimpArgs false
theorem QwP (l : List Event) (k : Int) (hl : l.length ≤ 1048576) : Zg l k = some ((l.countP fun x => decide (x.Kind = k) : Nat) : Int) := by
 have key : ∀ (m i a : Nat), i + m = l.length → a ≤ i → run (Xb k l (ln l)) ((a : Int), (i : Int)) = some ((a + (l.drop i).countP fun x => decide (x.Kind = k) : Nat) : Int) := by
  intro m
  induction m with
  | zero =>
   intro i a hi ha
   have : i = l.length := by omega
   subst this
   rw [Qi]; simp only [Xb, QI (Nat.le_refl _), cond_false, Option.bind_some, List.drop_length, List.countP_nil, Nat.add_zero]
  | succ m ih =>
   intro i a hi ha
   have hlt : i < l.length := by omega
   rw [Qi, List.drop_eq_getElem_cons hlt]
   simp only [Xb, Qx hlt, Qg hlt, Qw hlt, cond_true, Qa, QL (show (i : Int) < 9223372036854775807 by omega)]
   cases hd : decide (l[i].Kind = k) with
   | true =>
    rw [List.countP_cons_of_pos (by simpa using hd), show a + (List.countP (fun x => decide (x.Kind = k)) (List.drop (i + 1) l) + 1) = a + 1 + List.countP (fun x => decide (x.Kind = k)) (List.drop (i + 1) l) by omega]
    have e := QL (i := a) (show (a : Int) < 9223372036854775807 by omega)
    simp only [cond_true, e, Option.bind_some]
    exact ih (i + 1) (a + 1) (by omega) (by omega)
   | false =>
    rw [List.countP_cons_of_neg (by simpa using hd)]
    simp only [cond_false, Option.bind_some]
    exact ih (i + 1) a (by omega) (by omega)
 have := key l.length 0 0 (by omega) (by omega)
 unfold Zg
 rw [show run (Xb k l (ln l)) (0, 0) = _ from this]
 simp
def Qiq (m : List Mark) (x : Find) : Event := ⟨1, x, m, 0, 0, 0, []⟩
theorem Qyu (l : List Find) (m : List Mark) (hl : l.length ≤ 1048576) (hm : m.length ≤ 1048576) : Qda l m = some (l.map (Qiq m)) := by
 have hrm : rm (0 + m.length) 16 = true := Vy (by omega) (by omega)
 have h2 := XF (step := JM m l (ln l)) (fun i => ((l.take i).map (Qiq m), (i : Int))) (r := l.map (Qiq m)) l.length (fun i hi => by
   have hr2 : rm (((l.take i).map (Qiq m)).length + 1) 144 = true := Vy (by rw [List.length_map, List.length_take]; omega) (by omega)
   simp only [JM, VM, Qx hi, Qg hi, Qw hi, hrm, hr2, cond_true, Qa, Option.bind_some, QL (show (i : Int) < 9223372036854775807 by omega)]
   rw [List.take_succ_eq_append_getElem hi, List.map_append]; rfl)
  (by simp only [JM, QI (Nat.le_refl _), cond_false, List.take_length])
 unfold Qda
 rw [show run (JM m l (ln l)) ([], 0) = _ from by simpa using h2]; rfl
theorem QNL (c : List Int) (i : Nat) (h1 : ∀ x ∈ c, Qw5 .u8 x) (hl : c.length ≤ 1048576) (hi : i ≤ 1000) : ∃ v, Qg9 c (i : Int) = some v ∧ 0 ≤ v := by
 unfold Qg9
 by_cases h : i < c.length
 ·have hx : 0 ≤ c[i] ∧ c[i] ≤ 255 := h1 _ (List.getElem_mem h)
  refine ⟨c[i], ?_, hx.1⟩
  simp only [Qx h, Qg h, Qw h, cond_true, Qa, Q9 (show -9223372036854775808 ≤ c[i] by omega) (show c[i] ≤ 9223372036854775807 by omega)]
 ·refine ⟨_, by rw [decide_eq_false (show ¬ (i : Int) < ln c by rw [Q5]; omega)]; rfl, ?_⟩
  rw [Q5, Q9 (n := (i : Int) * 31) (by omega) (by omega), Q9 (n := (c.length : Int) * 7) (by omega) (by omega), Q9 (by omega) (by omega)]
  exact Int.tmod_nonneg _ (by omega)
theorem Qpe (k : Int) (h1 : 1 ≤ k) (h2 : k ≤ 7) : ∃ s, QbH k = some s ∧ decide (s = []) = false := by
 have : k = 1 ∨ k = 2 ∨ k = 3 ∨ k = 4 ∨ k = 5 ∨ k = 6 ∨ k = 7 := by omega
 rcases this with h | h | h | h | h | h | h <;> subst h <;> exact ⟨_, rfl, rfl⟩
theorem QvH (h : House) (e : Event) (hm : Qh h) {r : House × Bool} (hr : Xr h e = some r) (hd : r.2 = true) : 1 ≤ e.Kind ∧ e.Kind ≤ 7 := by
 by_cases hk : 1 ≤ e.Kind ∧ e.Kind ≤ 7
 ·exact hk
 ·unfold Xr at hr
  rw [decide_eq_false (show ¬ e.Kind = 1 by omega), decide_eq_false (show ¬ e.Kind = 2 by omega), decide_eq_false (show ¬ e.Kind = 3 by omega), decide_eq_false (show ¬ e.Kind = 4 by omega), decide_eq_false (show ¬ e.Kind = 5 by omega), decide_eq_false (show ¬ e.Kind = 6 by omega), decide_eq_false (show ¬ e.Kind = 7 by omega), XL h hm] at hr
  injection hr with hr
  subst hr
  cases hd
theorem QnK (c : List Int) (h1 : (okL (Qw5 .u8)) c) : QdC c = some true := by
 unfold QdC QiS
 simp only [Option.bind_some]
 by_cases hb : 1048576 < ln c
 ·rw [decide_eq_true hb]; rfl
 rw [decide_eq_false hb]
 rw [Q5] at hb
 have hc : c.length ≤ 1048576 := by omega
 obtain ⟨cu, e0, k0⟩ := Qzr c hc
 obtain ⟨c1, h, e1, k1, sh, vh⟩ := Qry cu k0
 obtain ⟨c2, l, e2, k2, n2, he, a, b, t, hl, ka, kb⟩ := QsT c1 16 k1 (by omega)
 have d1 : Zl c = some (h, l) := by unfold Zl; simp only [e0, e1, e2, Option.bind_some]
 have hl1 : l.length ≤ 1048576 := by omega
 have hl0 : 0 < l.length := by rw [hl]; simp
 obtain ⟨v, ev, hv⟩ : ∃ v, Qg9 c 3 = some v ∧ 0 ≤ v := QNL c 3 h1.2 hc (by omega)
 have hk := Qpg hv (show 0 < ln l by rw [Q5]; omega)
 obtain ⟨k, hk'⟩ : ∃ k : Nat, v.tmod (ln l) = (k : Int) := ⟨(v.tmod (ln l)).toNat, by omega⟩
 rw [hk'] at hk
 have hk2 := hk.2
 rw [Q5] at hk2
 obtain ⟨x, y, x1, y1, z1, fx, sx, sy⟩ := QBO h l k sh hl1 he
 have vx := Qk3 l h x sh vh he fx
 obtain ⟨bx, bx1, bx2⟩ := QtJ x sx
 rw [vx] at bx1
 injection bx1 with bx1
 subst bx1
 have hs1 : slB 0 (k : Int) (ln l) = true := by rw [Q5]; exact QeZ (by omega)
 have hs2 : slB (k : Int) (ln l) (ln l) = true := by unfold slB; simp [Q5]; omega
 have hct : cut l 0 (k : Int) = l.take k := XI l k
 have hcd : cut l (k : Int) (ln l) = l.drop k := by unfold cut; simp [Q5]
 have hcount : decide ((((l.countP fun x => decide (x.Kind = 1)) : Nat) : Int) < 2) = false := by
  rw [hl, List.countP_cons_of_pos (by simpa using ka), List.countP_cons_of_pos (by simpa using kb)]
  exact decide_eq_false (by omega)
 obtain ⟨c3, fl, e3, k3, n3⟩ := Qw6 cu k0
 obtain ⟨c4, ml, e4, k4, n4⟩ := Qvz c3 k3
 have d2 : Qan c = some (fl, ml) := by unfold Qan; simp only [e0, e3, e4, Option.bind_some]
 have hfa : (fl.map (Qiq ml)).countP (fun x => decide (x.Kind = 1)) = fl.length := by
  rw [List.countP_map]; exact List.countP_eq_length.2 (fun _ _ => rfl)
 have hfd : decide ((fl.length : Int) = ln fl) = true := decide_eq_true (Q5 fl).symm
 have hne : decide (ln l = 0) = false := decide_eq_false (by rw [Q5]; omega)
 obtain ⟨c5, q, e5, k5, sq⟩ := Qs3 cu k0
 obtain ⟨c6, w, e6, k6, sw⟩ := Qov c5 k5
 obtain ⟨c7, b7, e7, k7⟩ := QoF c6 9 k6
 obtain ⟨c8, x8, e8, k8, _⟩ := Qk c7 10 k7
 obtain ⟨w', d3, sw'⟩ : ∃ w', JO c = some (q, w') ∧ JQ w' := by
  unfold JO
  simp only [e0, e5, e6, e7, e8, Option.bind_some]
  cases b7 with
  | true => exact ⟨_, rfl, sw⟩
  | false => exact ⟨_, rfl, sw⟩
 obtain ⟨r, r1, r2, r3⟩ := Qh6 q w' sq sw'
 have hQ := QkW q w' sq r r1
 simp only [d1, d2, d3, x1, ev, hk', bx2, hs1, hs2, hct, hcd, y1, z1, QoJ x sx, QwP l 1 hl1, hcount, Qyu fl ml (by omega) (by omega), QwP (fl.map (Qiq ml)) 1 (show (fl.map (Qiq ml)).length ≤ 1048576 by rw [List.length_map]; omega), hfa, r2, Option.bind_some, Qa, cond_false, cond_true, Bool.not_true]
 rw [hne, hfd]
 simp only [Qa, cond_false, cond_true, Bool.not_true, Bool.not_false]
 cases hr2 : r.2 with
 | true =>
  obtain ⟨ki1, ki2⟩ := QvH q w' sq r1 hr2
  obtain ⟨s, es, hs⟩ := Qpe w'.Kind ki1 ki2
  simp only [es, hs, Option.bind_some, cond_false, cond_true, Bool.not_true, Bool.not_false]
 | false =>
  rw [hQ.2 hr2, QoJ q sq]
  rfl
end Go.Proofs.YtponohekgnklkaaGreat
