/- An abstract machine for the walks: a slice that stands in a row is taken out, written by a callee, and stands in the row again. No condition. -/
import Derived.Test.YtcpelionmmnogaaAm21
namespace Go.Proofs.Ytcpelionmmnogaa.Am
open Go
set_option linter.unusedVariables false
set_option linter.unusedSimpArgs false

theorem CR_out {w : World} {O : Nat → Prop} {E : EI} {m : Nat} {rs : List (List AV)} : ∀ {cs : List AV} {bl off o : Nat} {nb : List Nat}, CR w O E bl off cs nb → cs[o]? = some (.own m rs) →
    ∃ v n1 n2 n3, nb = n1 ++ n2 ++ n3 ∧ w.cell? ⟨bl, off + o, none⟩ = some v ∧ oneCell v = true ∧ XR w O E (.own m rs) v n2 ∧ CR w O E bl off (cs.set o .u) (n1 ++ n3)
  | [], _, _, _, _, _, h => by simp at h
  | c :: cs, bl, off, 0, nb, hC, h => by
    simp only [List.getElem?_cons_zero, Option.some.injEq] at h
    subst h
    unfold CR at hC
    obtain ⟨v, n1, n2, ⟨h1, h2⟩, rfl, h3, h4⟩ := hC
    refine ⟨v, [], n1, n2, rfl, h1, h2, h3, ?_⟩
    simp only [List.set_cons_zero, List.nil_append]
    unfold CR
    exact ⟨v, [], n2, ⟨h1, h2⟩, rfl, by simp [XR], h4⟩
  | c :: cs, bl, off, o + 1, nb, hC, h => by
    simp only [List.getElem?_cons_succ] at h
    unfold CR at hC
    obtain ⟨v, n1, n2, h12, rfl, h3, h4⟩ := hC
    obtain ⟨v', m1, m2, m3, rfl, q1, q2, q3, q4⟩ := CR_out h4 h
    refine ⟨v', n1 ++ m1, m2, m3, by simp, by rw [show off + (o + 1) = off + 1 + o by omega]; exact q1, q2, q3, ?_⟩
    simp only [List.set_cons_succ]
    unfold CR
    exact ⟨v, n1, m1 ++ m3, h12, by simp, h3, q4⟩
theorem RR_out {w : World} {O : Nat → Prop} {E : EI} {q m o : Nat} {rs : List (List AV)} : ∀ {rows : List (List AV)} {bl off i : Nat} {nb : List Nat}, RR w O E q bl off rows nb → (rowOf rows i)[o]? = some (.own m rs) →
    ∃ v n1 n2 n3, nb = n1 ++ n2 ++ n3 ∧ w.cell? ⟨bl, off + (i * q + o), none⟩ = some v ∧ oneCell v = true ∧ XR w O E (.own m rs) v n2 ∧ RR w O E q bl off (rows.set i ((rowOf rows i).set o .u)) (n1 ++ n3)
  | [], _, _, _, _, _, h => by simp [rowOf] at h
  | r :: rows, bl, off, 0, nb, hR, h => by
    unfold RR at hR
    obtain ⟨n1, n2, rfl, hl, hc, hr⟩ := hR
    have h' : r[o]? = some (.own m rs) := by simpa [rowOf] using h
    obtain ⟨v, m1, m2, m3, rfl, q1, q2, q3, q4⟩ := CR_out hc h'
    refine ⟨v, m1, m2, m3 ++ n2, by simp, by simpa using q1, q2, q3, ?_⟩
    have e : rowOf (r :: rows) 0 = r := by simp [rowOf]
    rw [e, List.set_cons_zero]
    unfold RR
    exact ⟨m1 ++ m3, n2, by simp, by simpa using hl, q4, hr⟩
  | r :: rows, bl, off, i + 1, nb, hR, h => by
    unfold RR at hR
    obtain ⟨n1, n2, rfl, hl, hc, hr⟩ := hR
    have e : rowOf (r :: rows) (i + 1) = rowOf rows i := by simp [rowOf]
    rw [e] at h
    obtain ⟨v, m1, m2, m3, rfl, q1, q2, q3, q4⟩ := RR_out hr h
    refine ⟨v, n1 ++ m1, m2, m3, by simp, ?_, q2, q3, ?_⟩
    · rw [show off + ((i + 1) * q + o) = off + q + (i * q + o) by rw [Nat.succ_mul]; omega]
      exact q1
    · rw [e, List.set_cons_succ]
      unfold RR
      exact ⟨n1, m1 ++ m3, by simp, hl, hc, q4⟩
section
variable {P : Program} {n : NE} {Y : Nat → Prop} {w0 : World} {F0 : Nat → Prop} {ρ : RHO} {f : Fr} {K : KS} {a : Act} {w : World}
def outK (K : KS) (j i o q m : Nat) (rows rs : List (List AV)) : KS := K.set j (some (.lst q (rows.set i ((rowOf rows i).set o .u)))) ++ [some (.lst m rs)]
/-- A slice in a row, made a region by itself. -/
theorem Sim.detach [Wd] (hS : Sim n Y w0 F0 ρ f K a w) {j i o q m : Nat} {rows rs : List (List AV)} (hj : kg K j = some (.lst q rows)) (hc : (rowOf rows i)[o]? = some (.own m rs)) :
    ∃ bl v ρ', (ρ j).1 = some bl ∧ w.cell? ⟨bl, i * q + o, none⟩ = some v ∧ oneCell v = true ∧ Sim n Y w0 F0 ρ' f (outK K j i o q m rows rs) a w ∧
      XR w (OO (outK K j i o q m rows rs) ρ' Y) (EK (outK K j i o q m rows rs) ρ') (.sl K.length) v [] ∧ (ρ' j).1 = some bl := by
  have hjl := kg_lt hj
  have hne : rows ≠ [] := by rintro rfl; simp [rowOf] at hc
  obtain ⟨bl, hbl, hW, hR, _⟩ := hS.mem hj (by simpa [Ent.rows] using hne)
  simp only [Ent.rows, Ent.n, Ent.E] at hR hW
  obtain ⟨v, n1, n2, n3, hnb, hv, ho, hX, hR'⟩ := RR_out hR hc
  rw [Nat.zero_add] at hv
  have hnd := hS.sees.nd j _ hj
  have hdec : ∃ (b : Option Nat) (n' : List Nat), n2 = b.toList ++ n' ∧ (match b with
      | none => rs = [] ∧ n' = [] ∧ ∃ ad, v = .slice ad 0 0
      | some b => ∃ cap, v = .slice (some ⟨b, 0, none⟩) rs.length cap ∧ rs.length ≤ cap ∧ Whole w b (cap * m) ∧ RR w (OO K ρ Y) EN m b 0 rs n') := by
    simp only [XR] at hX
    rcases hX with ⟨h1, h2, h3⟩ | ⟨b, n', cap, h1, h2, h3, h4, h5⟩
    · exact ⟨none, [], by simp [h3], h1, rfl, h2⟩
    · exact ⟨some b, n', by simp [h1], cap, h2, h3, h4, h5⟩
  obtain ⟨b, n', hn2, hd⟩ := hdec
  let K1 := outK K j i o q m rows rs
  let ρ' : RHO := fun x => if x = j then (some bl, n1 ++ n3) else if x = K.length then (b, n') else ρ x
  have hjK : j ≠ K.length := by omega
  have hρj : ρ' j = (some bl, n1 ++ n3) := by simp [ρ']
  have hρn : ρ' K.length = (b, n') := by simp [ρ', Ne.symm hjK]
  have hρo : ∀ x, x ≠ j → x ≠ K.length → ρ' x = ρ x := fun x h1 h2 => by simp [ρ', h1, h2]
  have hk : ∀ x, kg K1 x = if x = K.length then some (.lst m rs) else if x = j then some (.lst q (rows.set i ((rowOf rows i).set o .u))) else kg K x := fun x => by
    show kg (K.set j _ ++ [_]) x = _
    rw [kg_push, List.length_set]
    by_cases h1 : x = K.length
    · rw [if_pos h1, if_pos h1]
    · rw [if_neg h1, if_neg h1, kg_set _ _ _ _ hjl]
  have hkj : kg K1 j = some (.lst q (rows.set i ((rowOf rows i).set o .u))) := by rw [hk, if_neg hjK, if_pos rfl]
  have hkn : kg K1 K.length = some (.lst m rs) := by rw [hk, if_pos rfl]
  have hko : ∀ x, x ≠ j → x ≠ K.length → kg K1 x = kg K x := fun x h1 h2 => by rw [hk, if_neg h2, if_neg h1]
  have hfj : fp ρ j = bl :: (n1 ++ n2 ++ n3) := by simp [fp, hbl, hnb]
  have hfj' : fp ρ' j = bl :: (n1 ++ n3) := by simp [fp, hρj]
  have hfn' : fp ρ' K.length = n2 := by simp [fp, hρn, hn2]
  have hfo : ∀ x, x ≠ j → x ≠ K.length → fp ρ' x = fp ρ x := fun x h1 h2 => by simp [fp, hρo x h1 h2]
  have hsub : ∀ x, x ∈ fp ρ' j ∨ x ∈ fp ρ' K.length → x ∈ fp ρ j := by
    intro x hx
    rw [hfj', hfn'] at hx
    rw [hfj]
    simp only [List.mem_cons, List.mem_append] at hx ⊢
    rcases hx with (h | h | h) | h <;> simp [h]
  have hO : ∀ x, OO K1 ρ' Y x → OO K ρ Y x := by
    rintro x (h | ⟨y, e, h1, h2⟩)
    · exact .inl h
    · by_cases hy : y = j
      · subst hy; exact .inr ⟨y, _, hj, hsub x (.inl h2)⟩
      · by_cases hy' : y = K.length
        · subst hy'; exact .inr ⟨j, _, hj, hsub x (.inr h2)⟩
        · exact .inr ⟨y, e, by rw [← hko y hy hy']; exact h1, by rw [← hfo y hy hy']; exact h2⟩
  have hlen : K1.length = K.length + 1 := by simp [K1, outK]
  have hsame : Same (OO K ρ Y) (EK K ρ) w (OO K1 ρ' Y) (EK K1 ρ') w := by
    refine ⟨Nat.le_refl _, fun _ _ _ => rfl, fun x hx _ h => hx (hO x h), by simp [EK, hlen], fun x p hx hp => ?_, fun _ _ _ _ _ _ _ h => h⟩
    simp only [EK] at hx hp ⊢
    by_cases hxj : x = j
    · subst hxj
      rw [hkj] at hp
      rw [hj, ← hp, hρj, hbl]
      simp [Ent.n, Ent.rows]
    · rw [hko x hxj (by omega)] at hp
      rw [← hp, hρo x hxj (by omega)]
  have hen : Same (OO K ρ Y) EN w (OO K1 ρ' Y) EN w := hsame.en
  rw [hfj] at hnd
  have hndj : (bl :: (n1 ++ n3)).Nodup := hnd.sublist (List.Sublist.cons_cons _ (by simp))
  have hndn : n2.Nodup := by
    have := (List.nodup_cons.1 hnd).2
    exact this.sublist (by simp [List.append_assoc])
  have hdjn : ∀ x, x ∈ bl :: (n1 ++ n3) → x ∉ n2 := by
    intro x hx hx2
    obtain ⟨p1, p2⟩ := List.nodup_cons.1 hnd
    rw [List.nodup_append, List.nodup_append] at p2
    obtain ⟨⟨_, _, p3⟩, _, p4⟩ := p2
    rcases List.mem_cons.1 hx with rfl | hx
    · exact p1 (by simp [hx2])
    · rcases List.mem_append.1 hx with hx | hx
      · exact p3 x hx x hx2 rfl
      · exact p4 x (by simp [hx2]) x hx rfl
  refine ⟨bl, v, ρ', hbl, hv, ho, ⟨hS.defers, hS.size, hsame.keep hS.keep, fun t => XR.mono (f t) hsame _ _ (by simp) (hS.fr t), ⟨fun x e hx => ?_, fun x e hx => ?_, fun x e y hx hy => ?_, fun x e y e' z hx hy hxy hz hz' => ?_⟩, hS.ext, fun x e y hx hy => ?_, hS.yl⟩, ?_, by rw [hρj]⟩
  · by_cases hxj : x = j
    · subst hxj
      rw [hkj] at hx
      injection hx with hx; subst hx
      rw [hρj]
      refine ⟨by simpa [Ent.rows, Ent.n] using hW, ?_, fun h => by cases h⟩
      exact RR.mono _ hen bl 0 _ rfl (fun _ _ => rfl) hR'
    · by_cases hxn : x = K.length
      · subst hxn
        rw [hkn] at hx
        injection hx with hx; subst hx
        rw [hρn]
        cases b with
        | none => exact ⟨hd.1, hd.2.1⟩
        | some b =>
          obtain ⟨cap, _, h2, h3, h4⟩ := hd
          exact ⟨h3.le (Nat.mul_le_mul_right m h2), RR.mono _ hen b 0 _ rfl (fun _ _ => rfl) h4, fun h => by cases h⟩
      · rw [hko x hxj hxn] at hx
        rw [hρo x hxj hxn]
        have hE : Same (OO K ρ Y) (e.E (EK K ρ)) w (OO K1 ρ' Y) (e.E (EK K1 ρ')) w := by
          cases e with
          | box cs => exact hsame
          | lst n rows => exact hen
        exact Reg.mono hE (fun _ _ => rfl) (fun _ _ => rfl) (hS.sees.reg x e hx)
  · by_cases hxj : x = j
    · subst hxj; rw [hfj']; exact hndj
    · by_cases hxn : x = K.length
      · subst hxn; rw [hfn']; exact hndn
      · rw [hfo x hxj hxn]; rw [hko x hxj hxn] at hx; exact hS.sees.nd x e hx
  · by_cases hxj : x = j
    · subst hxj; exact hS.sees.lt x _ y hj (hsub y (.inl hy))
    · by_cases hxn : x = K.length
      · subst hxn; exact hS.sees.lt j _ y hj (hsub y (.inr hy))
      · rw [hfo x hxj hxn] at hy; rw [hko x hxj hxn] at hx; exact hS.sees.lt x e y hx hy
  · have key : ∀ {x y e z}, (x = j ∨ x = K.length) → y ≠ j → y ≠ K.length → kg K1 y = some e → z ∈ fp ρ' x → z ∉ fp ρ' y := by
      intro x y e z hx h1 h2 hy hz hz'
      rw [hfo y h1 h2] at hz'
      rw [hko y h1 h2] at hy
      refine hS.sees.dj j _ y e z hj hy (Ne.symm h1) (hsub z ?_) hz'
      rcases hx with rfl | rfl
      · exact .inl hz
      · exact .inr hz
    by_cases hx1 : x = j ∨ x = K.length
    · by_cases hy1 : y = j ∨ y = K.length
      · rcases hx1 with rfl | rfl <;> rcases hy1 with rfl | rfl
        · exact hxy rfl
        · rw [hfj'] at hz; rw [hfn'] at hz'; exact hdjn z hz hz'
        · rw [hfn'] at hz; rw [hfj'] at hz'; exact hdjn z hz' hz
        · exact hxy rfl
      · exact key hx1 (fun h => hy1 (.inl h)) (fun h => hy1 (.inr h)) hy hz hz'
    · by_cases hy1 : y = j ∨ y = K.length
      · exact key hy1 (fun h => hx1 (.inl h)) (fun h => hx1 (.inr h)) hx hz' hz
      · have a1 : x ≠ j := fun h => hx1 (.inl h)
        have a2 : x ≠ K.length := fun h => hx1 (.inr h)
        have b1 : y ≠ j := fun h => hy1 (.inl h)
        have b2 : y ≠ K.length := fun h => hy1 (.inr h)
        rw [hfo x a1 a2] at hz; rw [hfo y b1 b2] at hz'
        rw [hko x a1 a2] at hx; rw [hko y b1 b2] at hy
        exact hS.sees.dj x e y e' z hx hy hxy hz hz'
  · by_cases hxj : x = j
    · subst hxj; exact hS.new x _ y hj (hsub y (.inl hy))
    · by_cases hxn : x = K.length
      · subst hxn; exact hS.new j _ y hj (hsub y (.inr hy))
      · rw [hfo x hxj hxn] at hy; rw [hko x hxj hxn] at hx; exact hS.new x e y hx hy
  · simp only [XR]
    have hof : (EK K1 ρ').of K.length = some (b, m, rs.length) := by simp only [EK, hkn, Option.map_some, hρn, Ent.n, Ent.rows]
    refine ⟨trivial, (show K.length < K1.length by omega), fun n' len h => ?_, fun b' n' len h => ?_⟩
    · have h' : some (b, m, rs.length) = some (none, n', len) := hof.symm.trans h
      injection h' with h'; injection h' with h1 h2
      subst h1
      exact hd.2.2
    · have h' : some (b, m, rs.length) = some (some b', n', len) := hof.symm.trans h
      injection h' with h'; injection h' with h1 h2; injection h2 with h2 h3
      subst h1 h2 h3
      obtain ⟨cap, q1, q2, q3, _⟩ := hd
      exact ⟨cap, q1, q2, q3⟩
/-- To store what is there already changes nothing. -/
theorem store_same {b o : Nat} {v : Value} {m : Nat} (hW : Whole w b m) (ho : o < m) (hv : w.cell? ⟨b, o, none⟩ = some v) : w.setCell ⟨b, o, none⟩ v = w := by
  obtain ⟨c, el, hc, hm⟩ := hW
  have hco : c[o]? = some v := by simpa [World.cell?, hc] using hv
  have hb : b < w.heap.size := by
    rcases Nat.lt_or_ge b w.heap.size with h | h
    · exact h
    · rw [Array.getElem?_eq_none h] at hc; cases hc
  have hset : c.setIfInBounds o v = c := by
    apply Array.ext_getElem?
    intro k
    rw [Array.getElem?_setIfInBounds]
    by_cases hk : o = k
    · subst hk
      rw [if_pos rfl]
      rw [hco]
      rw [if_pos (by omega)]
    · rw [if_neg hk]
  have hh : (w.setCell ⟨b, o, none⟩ v).heap = w.heap := by
    apply Array.ext_getElem?
    intro k
    simp only [World.setCell, Array.getElem?_modify]
    by_cases hk : b = k
    · subst hk
      rw [if_pos rfl, hc]
      simp [hset]
    · rw [if_neg hk]
  have : w.setCell ⟨b, o, none⟩ v = { w with heap := (w.setCell ⟨b, o, none⟩ v).heap } := rfl
  rw [this, hh]
/-- A number, a truth or a text. -/
def AV.scal : AV → Bool
  | .b _ | .i _ _ | .s _ => true
  | _ => false
theorem scal_flat {c : AV} (h : c.scal = true) : c.flat = true := by cases c <;> first | rfl | cases h
theorem scal_sub {c : AV} (h : c.scal = true) (js : List Nat) : subA js c = some c := by cases c <;> first | rfl | cases h
/-- The slice in a row is loaded, a callee writes it, and it stands in the row again. -/
theorem Sim.nest [Wd] (hS : Sim n Y w0 F0 ρ f K a w) {t : TypeId} {p x : Operand} {g : FuncId} {d e : Nat} (ht : tk P t = .one) {j i o q m m' : Nat} {rows rs rs' : List (List AV)} {r : AV}
    (hp : Am.ev f p = .ptr j i o) (hj : kg K j = some (.lst q rows)) (hc : (rowOf rows i)[o]? = some (.own m rs)) (hd : d < n.n) (he : e < n.n) (hde : d ≠ e) (hcf : (Am.ev (up f d (.sl K.length)) x).scal = true)
    (hA : AC P g [some (.lst m rs)] [.sl 0, Am.ev (up f d (.sl K.length)) x] (fun v K' => (v = r ∧ K'.take 1 = [some (.lst m' rs')]) ∧ r.flat = true)) {k : KS → Prop} {l}
    (hk : xstoreX false [] ((outK K j i o q m rows rs).set K.length (some (.lst m' rs'))) (tk P t) (.ptr j i o) (.sl K.length) k l) :
    ∃ v, (Instr.loadAt t (a.eval p)).run P w = .ok v w ∧ ∃ y, (a.put (some d) v).eval x = y ∧ ((a.put (some d) v).put (some e) y).eval (.tmp d) = v ∧ ((a.put (some d) v).put (some e) y).eval (.tmp e) = y ∧
      (callFunc g #[v, y]).run P w = .ok (.enter g #[v, y]) w ∧ Calls P g #[v, y] w fun en w' => ∃ u, en = .returned u ∧ (∀ O E, XR w' O E r u []) ∧
        ∃ K' ρ', Sim n Y w0 F0 ρ' (up (up f d (.sl K.length)) e (Am.ev (up f d (.sl K.length)) x)) K' ((a.put (some d) v).put (some e) y) w' ∧ k K' := by
  have hjl := kg_lt hj
  have hne : rows ≠ [] := by rintro rfl; simp [rowOf] at hc
  have hil : i < rows.length := by
    rcases Nat.lt_or_ge i rows.length with h | h
    · exact h
    · unfold rowOf at hc
      rw [List.getD_eq_getElem?_getD, List.getElem?_eq_none h] at hc
      simp at hc
  obtain ⟨bl0, hbl0, hW0, hR0, _⟩ := hS.mem hj (by simpa [Ent.rows] using hne)
  simp only [Ent.rows, Ent.n, Ent.E] at hR0 hW0
  obtain ⟨nb0, hrl, _, _⟩ := RR_row hR0 hil
  have hol : o < q := by
    have : o < (rowOf rows i).length := by
      rcases Nat.lt_or_ge o (rowOf rows i).length with h | h
      · exact h
      · rw [List.getElem?_eq_none h] at hc; cases hc
    omega
  have hpv := hS.ev p
  rw [hp] at hpv
  obtain ⟨bl', hbl', hpeq⟩ := XR_ptr_at hS hj hpv
  obtain ⟨bl, v, ρ1, hbl, hv, ho, hS1, hX1, hb1⟩ := hS.detach hj hc
  obtain rfl : bl = bl' := by rw [hbl] at hbl'; injection hbl'
  obtain rfl : bl = bl0 := by rw [hbl] at hbl0; injection hbl0
  simp only [Ent.n] at hpeq
  obtain ⟨hz, dd, hu, hdd⟩ := tk_one ht
  have hload : (Instr.loadAt t (a.eval p)).run P w = .ok v w := by
    rw [hpeq]
    simp [Instr.loadAt, Instr.sureAddr, loadVar, run_isAgg hu, hdd, hv]
  have hS2 := hS1.put hd hX1
  have hS3 := hS2.put (v := (a.put (some d) v).eval x) he (hS2.ev x)
  have hsz : a.tmps.size = n.n := hS.size
  have ev1 : ((a.put (some d) v).put (some e) ((a.put (some d) v).eval x)).eval (.tmp e) = (a.put (some d) v).eval x := by
    simp [Act.put, Act.eval, hsz, he]
  have ev2 : ((a.put (some d) v).put (some e) ((a.put (some d) v).eval x)).eval (.tmp d) = v := by
    simp [Act.put, Act.eval, hsz, hd, Ne.symm hde]
  refine ⟨v, hload, _, rfl, ev2, ev1, ?_⟩
  have hkn : kg (outK K j i o q m rows rs) K.length = some (.lst m rs) := by
    show kg (K.set j _ ++ [_]) K.length = _
    rw [kg_push, List.length_set, if_pos rfl]
  have hsubK : subK (outK K j i o q m rows rs) [K.length] = [some (.lst m rs)] := by simp [subK, hkn]
  have hs0 : subA [K.length] (.sl K.length) = some (.sl 0) := by simp [subA, ixOf]
  have hXx : ∀ O E, XR w O E (Am.ev (up f d (.sl K.length)) x) ((a.put (some d) v).eval x) [] := fun O E => XR_flat (scal_flat hcf) (hS2.ev x)
  obtain ⟨q1, q2⟩ := hS3.callA (P := P) (js := [K.length]) (by simp) (fun j hj => by rw [List.mem_singleton.1 hj, hkn]; rfl) (g := g) (cs := [.sl K.length, Am.ev (up f d (.sl K.length)) x]) (cs' := [.sl 0, Am.ev (up f d (.sl K.length)) x])
        (xs := [v, (a.put (some d) v).eval x]) (r := r) (es := [some (.lst m' rs')]) (by rw [hsubK]; exact hA.mono fun v K' ⟨h1, h2⟩ => ⟨h1, h2, by simp [isLst], rfl⟩)
        (by simp only [subAs, hs0, scal_sub hcf, Option.bind_some, Option.map_some])
        (by simp only [XRs]; exact ⟨v, _, [], [], rfl, rfl, hX1, _, _, [], [], rfl, rfl, hXx _ _, rfl, rfl⟩)
  refine ⟨q1, q2.mono fun en w' ⟨u, ρ2, h1, hru, hS4, hExt, hρ, hshape⟩ => ⟨u, h1, hru, ?_⟩⟩
  have hjn : j ≠ K.length := by omega
  have hkj : kg (outK K j i o q m rows rs) j = some (.lst q (rows.set i ((rowOf rows i).set o .u))) := by
    show kg (K.set j _ ++ [_]) j = _
    rw [kg_push, List.length_set, if_neg hjn, kg_set _ _ _ _ hjl, if_pos rfl]
  have hb2 : (ρ2 j).1 = some bl := by rw [hρ j (by simpa using hjn)]; exact hb1
  have hlen : (outK K j i o q m rows rs).length = K.length + 1 := by simp [outK]
  have hK2 : puts (outK K j i o q m rows rs) [K.length] [some (.lst m' rs')] = (outK K j i o q m rows rs).set K.length (some (.lst m' rs')) := by simp [puts]
  have hkj2 : kg (puts (outK K j i o q m rows rs) [K.length] [some (.lst m' rs')]) j = some (.lst q (rows.set i ((rowOf rows i).set o .u))) := by
    rw [hK2, kg_set _ _ _ _ (by omega), if_neg hjn]; exact hkj
  have hheap : w'.heap[bl]? = w.heap[bl]? := hExt.block bl hW0.lt (fun ⟨j', e', p1, p2, p3⟩ => by
    rw [List.mem_singleton.1 p1] at p2 p3
    exact hS1.sees.dj j _ K.length e' bl hkj p2 hjn (fp_hd hb1) p3)
  have hv' : w'.cell? ⟨bl, i * q + o, none⟩ = some v := by rw [cell_same hheap]; exact hv
  have hW' : Whole w' bl (rows.length * q) := hW0.same hheap
  have hpX : XR w' (OO (puts (outK K j i o q m rows rs) [K.length] [some (.lst m' rs')]) ρ2 Y) (EK (puts (outK K j i o q m rows rs) [K.length] [some (.lst m' rs')]) ρ2) (.ptr j i o) (.pointer (some ⟨bl, i * q + o, none⟩)) [] :=
    XR_ptr_mk (E := EN) (e := .lst q (rows.set i ((rowOf rows i).set o .u))) hkj2 hb2 (by rw [puts_length, hlen]; omega)
  have hsX := hS4.fr d
  have hfd : up (up f d (.sl K.length)) e (Am.ev (up f d (.sl K.length)) x) d = .sl K.length := by simp [up, hde]
  have hav : ((a.put (some d) v).put (some e) ((a.put (some d) v).eval x)).tmps.getD d undef = v := by
    have := ev2
    simpa [Act.eval] using this
  rw [hfd, hav] at hsX
  rw [hK2] at hpX hsX hS4
  obtain ⟨K', ρ', w2, g1, g2, g3⟩ := xstoreX_ok (P := P) hS4 hk hpX hsX
  have hro : (i + 1) * q ≤ rows.length * q := Nat.mul_le_mul_right q hil
  have hro' : (i + 1) * q = i * q + q := Nat.succ_mul i q
  have hst : (Instr.storeAt t (.pointer (some ⟨bl, i * q + o, none⟩)) v).run P w' = .ok () w' := by
    simp only [Instr.storeAt, Instr.sureAddr, Sem.run_bind, Sem.run_pure, Result.andThen_ok, storeVar, run_sizeOf hz]
    rw [if_neg (by rw [cells_one ho]; simp), cells_one ho]
    simp only [storeCells, add_none, Nat.add_zero, Sem.run_bind, store_run hW' (show i * q + o < rows.length * q by omega) ho, Result.andThen_ok, Sem.run_pure]
    rw [store_same hW' (show i * q + o < rows.length * q by omega) hv']
  rw [hst] at g1
  injection g1 with g1 g1'
  subst g1'
  exact ⟨K', ρ', g2, g3⟩
end
end Go.Proofs.Ytcpelionmmnogaa.Am
