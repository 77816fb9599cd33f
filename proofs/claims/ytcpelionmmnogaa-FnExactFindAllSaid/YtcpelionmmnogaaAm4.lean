/- An abstract machine for the walks: its steps that write memory are right. No condition. -/
import Derived.Test.YtcpelionmmnogaaAm3
namespace Go.Proofs.Ytcpelionmmnogaa.Am
open Go
set_option linter.unusedVariables false
set_option linter.unusedSimpArgs false

/-- From w to w' the cells from 'off' on of block b have become vs. -/
structure Put (w w' : World) (b off : Nat) (vs : List Value) : Prop where
  os : w'.os = w.os
  tape : w'.tape = w.tape
  output : w'.output = w.output
  size : w'.heap.size = w.heap.size
  block : ∀ k, k ≠ b → w'.heap[k]? = w.heap[k]?
  here : ∃ c el c', w.heap[b]? = some (.cells c el (0, 0)) ∧ w'.heap[b]? = some (.cells c' el (0, 0)) ∧ c'.size = c.size ∧
    (∀ k, k < off ∨ off + vs.length ≤ k → c'[k]? = c[k]?) ∧ ∀ i, i < vs.length → c'[off + i]? = vs[i]?


theorem store_run {P : Program} {w : World} {b o m : Nat} {v : Value} (hW : Whole w b m) (ho : o < m) (hv : oneCell v = true) :
    (store ⟨b, o, none⟩ v).run P w = .ok () (w.setCell ⟨b, o, none⟩ v) := by
  obtain ⟨c, el, hc, hm⟩ := hW
  have hcell : w.cell? ⟨b, o, none⟩ = some c[o] := by simp [World.cell?, hc, show o < c.size by omega]
  have hf : w.frozen? ⟨b, o, none⟩ = false := by simp [World.frozen?, hc]
  unfold store
  cases v <;> first | (simp [oneCell] at hv; done) | simp [Sem.run, hcell, hf]

theorem put_one {w : World} {b o m : Nat} {v : Value} (hW : Whole w b m) (ho : o < m) : Put w (w.setCell ⟨b, o, none⟩ v) b o [v] := by
  obtain ⟨c, el, hc, hm⟩ := hW
  have hb : b < w.heap.size := Whole.lt ⟨c, el, hc, hm⟩
  refine ⟨rfl, rfl, rfl, by simp [World.setCell], fun k hk => Go.RowKit.Below.heap_setCell _ _ _ _ hk, c, el, c.setIfInBounds o v, hc, ?_, by simp, ?_, ?_⟩
  · simp only [World.setCell, Array.getElem?_modify, if_true, hc, Option.map_some]
    simp
  · intro k hk
    simp at hk
    rw [Array.getElem?_setIfInBounds, if_neg (by omega)]
  · intro i hi
    simp at hi; subst hi
    simp [show o < c.size by omega]

theorem Put.whole {w w' : World} {b off : Nat} {vs : List Value} (h : Put w w' b off vs) {k m : Nat} (hw : Whole w k m) : Whole w' k m := by
  by_cases hk : k = b
  · subst hk
    obtain ⟨c, el, c', h1, h2, h3, _⟩ := h.here
    obtain ⟨d, el', h4, h5⟩ := hw
    rw [h1] at h4; injection h4 with h4; injection h4 with h4 _ _; subst h4
    exact ⟨c', el, h2, by omega⟩
  · exact hw.same (h.block k hk)

theorem Put.cons {w w' w'' : World} {b off : Nat} {v : Value} {vs : List Value} (h : Put w w' b off [v]) (h' : Put w' w'' b (off + 1) vs) : Put w w'' b off (v :: vs) := by
  obtain ⟨c, el, c', h1, h2, h3, h4, h5⟩ := h.here
  obtain ⟨d, el', d', g1, g2, g3, g4, g5⟩ := h'.here
  rw [h2] at g1; injection g1 with g1; injection g1 with g1 e1 _; subst g1 e1
  refine ⟨h'.os.trans h.os, h'.tape.trans h.tape, h'.output.trans h.output, h'.size.trans h.size, fun k hk => (h'.block k hk).trans (h.block k hk), c, el, d', h1, g2, by omega, ?_, ?_⟩
  · intro k hk
    simp at hk
    rw [g4 k (by omega), h4 k (by simp; omega)]
  · intro i hi
    cases i with
    | zero => rw [Nat.add_zero, g4 off (by omega)]; have := h5 0 (by simp); simpa using this
    | succ i =>
      have := g5 i (by simpa using hi)
      simpa [Nat.add_assoc, Nat.add_comm 1 i] using this

theorem Put.nil {w : World} {b off m : Nat} (hW : Whole w b m) : Put w w b off [] := by
  obtain ⟨c, el, hc, hm⟩ := hW
  exact ⟨rfl, rfl, rfl, rfl, fun _ _ => rfl, c, el, c, hc, hc, rfl, fun _ _ => rfl, fun i hi => by simp at hi⟩

theorem storeCells_run {P : Program} {b off : Nat} : ∀ (vs : List Value) (i : Nat) {w : World} {m : Nat}, Whole w b m → off + i + vs.length ≤ m → (∀ v ∈ vs, oneCell v = true) →
    ∃ w', (storeCells ⟨b, off, none⟩ vs i).run P w = .ok () w' ∧ Put w w' b (off + i) vs
  | [], i, w, m, hW, hm, _ => ⟨w, by simp [storeCells], Put.nil hW⟩
  | v :: vs, i, w, m, hW, hm, hv => by
    simp at hm
    have h1 := store_run (P := P) hW (show off + i < m by omega) (hv v (by simp))
    have hp := put_one (v := v) hW (show off + i < m by omega)
    obtain ⟨w', h2, h3⟩ := storeCells_run (P := P) (off := off) vs (i + 1) (hp.whole hW) (by omega) (fun u hu => hv u (by simp [hu]))
    rw [← Nat.add_assoc] at h3
    refine ⟨w', ?_, hp.cons h3⟩
    simp [storeCells, add_none, h1, h2]

/-! ### a region's cells, written -/
theorem XRs_append {w : World} {O : Nat → Prop} {E : EI} : ∀ {as bs : List AV} {va vb : List Value} {na nb : List Nat}, XRs w O E as va na → XRs w O E bs vb nb → XRs w O E (as ++ bs) (va ++ vb) (na ++ nb)
  | [], bs, va, vb, na, nb, ha, hb => by simp only [XRs] at ha; obtain ⟨rfl, rfl⟩ := ha; simpa using hb
  | a :: as, bs, va, vb, na, nb, ha, hb => by
    simp only [XRs] at ha
    obtain ⟨v, vs', n1, n2, rfl, rfl, h3, h4⟩ := ha
    simp only [List.cons_append, XRs]
    exact ⟨v, _, n1, n2 ++ nb, rfl, by simp, h3, XRs_append h4 hb⟩
theorem XRs_split {w : World} {O : Nat → Prop} {E : EI} : ∀ (p : Nat) {cs : List AV} {vs : List Value} {nb : List Nat}, XRs w O E cs vs nb →
    ∃ n1 n2, nb = n1 ++ n2 ∧ XRs w O E (cs.take p) (vs.take p) n1 ∧ XRs w O E (cs.drop p) (vs.drop p) n2
  | 0, cs, vs, nb, h => ⟨[], nb, rfl, by simp [XRs], by simpa using h⟩
  | p + 1, [], vs, nb, h => by simp only [XRs] at h; exact ⟨[], [], by simp [h.2], by simp [h.1, XRs], by simp [h.1, XRs]⟩
  | p + 1, c :: cs, vs, nb, h => by
    simp only [XRs] at h
    obtain ⟨v, vs', n1, n2, rfl, rfl, h3, h4⟩ := h
    obtain ⟨m1, m2, rfl, h5, h6⟩ := XRs_split p h4
    refine ⟨n1 ++ m1, m2, by simp, ?_, by simpa using h6⟩
    simp only [List.take_succ_cons, XRs]
    exact ⟨v, _, n1, m1, rfl, rfl, h3, h5⟩
theorem CR_mk {w : World} {O : Nat → Prop} {E : EI} : ∀ {cs : List AV} {bl o : Nat} {nb : List Nat} {vs : List Value}, (∀ i, i < cs.length → w.cell? ⟨bl, o + i, none⟩ = vs[i]?) → (∀ v ∈ vs, oneCell v = true) → XRs w O E cs vs nb → CR w O E bl o cs nb
  | [], bl, o, nb, vs, _, _, h => by simp only [XRs] at h; simp [CR, h.2]
  | c :: cs, bl, o, nb, vs, hc, ho, h => by
    simp only [XRs] at h
    obtain ⟨v, vs', n1, n2, rfl, rfl, h3, h4⟩ := h
    simp only [CR]
    refine ⟨v, n1, n2, ⟨by simpa using hc 0 (by simp), ho v (by simp)⟩, rfl, h3, CR_mk (vs := vs') (fun i hi => ?_) (fun u hu => ho u (by simp [hu])) h4⟩
    have := hc (i + 1) (by simpa using hi)
    simpa [Nat.add_assoc, Nat.add_comm 1 i] using this
theorem CR_mono' {w w' : World} {O O' : Nat → Prop} {E E' : EI} {cs : List AV} {bl o : Nat} {nb : List Nat} (hs : Same O E w O' E' w')
    (hc : ∀ i, i < cs.length → w'.cell? ⟨bl, o + i, none⟩ = w.cell? ⟨bl, o + i, none⟩) (hn : ∀ b ∈ nb, w'.heap[b]? = w.heap[b]?) (h : CR w O E bl o cs nb) : CR w' O' E' bl o cs nb := by
  obtain ⟨vs, hl, hv, hx, ho⟩ := CR_vals h
  exact CR_mk (fun i hi => (hc i hi).trans (hv i hi)) ho (XRs.mono cs hs _ _ hn hx)
theorem RR_mono' {w w' : World} {O O' : Nat → Prop} {E E' : EI} {n : Nat} (hs : Same O E w O' E' w') : ∀ {rs : List (List AV)} {bl off : Nat} {nb : List Nat},
    (∀ i, i < rs.length * n → w'.cell? ⟨bl, off + i, none⟩ = w.cell? ⟨bl, off + i, none⟩) → (∀ b ∈ nb, w'.heap[b]? = w.heap[b]?) → RR w O E n bl off rs nb → RR w' O' E' n bl off rs nb
  | [], bl, off, nb, _, _, h => by simpa only [RR] using h
  | r :: rs, bl, off, nb, hc, hn, h => by
    simp only [RR] at h ⊢
    obtain ⟨n1, n2, rfl, hr, h3, h4⟩ := h
    refine ⟨n1, n2, rfl, hr, CR_mono' hs (fun i hi => hc i (by simp [Nat.succ_mul]; omega)) (fun b hb => hn b (by simp [hb])) h3, RR_mono' hs (fun i hi => ?_) (fun b hb => hn b (by simp [hb])) h4⟩
    have := hc (n + i) (by simp [Nat.succ_mul]; omega)
    simpa [Nat.add_assoc] using this
theorem RR_set {w w' : World} {O O' : Nat → Prop} {E E' : EI} {n : Nat} (hs : Same O E w O' E' w') {r' : List AV} (hr' : r'.length = n) : ∀ {rs : List (List AV)} {bl off : Nat} {nb : List Nat} {i : Nat}, i < rs.length →
    (∀ k, (k < i * n ∨ (i + 1) * n ≤ k) → w'.cell? ⟨bl, off + k, none⟩ = w.cell? ⟨bl, off + k, none⟩) → (∀ b ∈ nb, w'.heap[b]? = w.heap[b]?) →
    (∀ m, m.Sublist nb → CR w O E bl (off + i * n) (rowOf rs i) m → ∃ m', CR w' O' E' bl (off + i * n) r' m' ∧ m'.Sublist m) →
    RR w O E n bl off rs nb → ∃ nb', RR w' O' E' n bl off (rs.set i r') nb' ∧ nb'.Sublist nb
  | [], _, _, _, _, hi, _, _, _, _ => by simp at hi
  | r :: rs, bl, off, nb, 0, hi, hc, hn, hnew, h => by
    simp only [RR] at h
    obtain ⟨n1, n2, rfl, hr, h3, h4⟩ := h
    obtain ⟨m', h5, h6⟩ := hnew n1 (by simp) (by simpa [rowOf] using h3)
    refine ⟨m' ++ n2, ?_, by exact List.Sublist.append h6 (List.Sublist.refl _)⟩
    simp only [List.set_cons_zero, RR]
    refine ⟨m', n2, rfl, hr', by simpa using h5, RR_mono' hs (fun i hi => ?_) (fun b hb => hn b (by simp [hb])) h4⟩
    have := hc (n + i) (by right; simp only [Nat.zero_add, Nat.one_mul]; omega)
    simpa [Nat.add_assoc] using this
  | r :: rs, bl, off, nb, i + 1, hi, hc, hn, hnew, h => by
    simp only [RR] at h
    obtain ⟨n1, n2, rfl, hr, h3, h4⟩ := h
    have e : off + n + i * n = off + (i + 1) * n := by rw [Nat.succ_mul]; omega
    obtain ⟨nb', h5, h6⟩ := RR_set hs hr' (rs := rs) (bl := bl) (off := off + n) (nb := n2) (i := i) (by simpa using hi) (fun k hk => by
        have := hc (n + k) (by simp only [Nat.succ_mul] at hk ⊢; omega)
        simpa [Nat.add_assoc] using this) (fun b hb => hn b (by simp [hb])) (fun m hm hC => by
        rw [e] at hC ⊢
        exact hnew m (hm.trans (by simp)) (by simpa [rowOf] using hC)) h4
    refine ⟨n1 ++ nb', ?_, List.Sublist.append (List.Sublist.refl _) h6⟩
    simp only [List.set_cons_succ, RR]
    refine ⟨n1, nb', rfl, hr, CR_mono' hs (fun k hk => hc k (by simp only [Nat.succ_mul]; omega)) (fun b hb => hn b (by simp [hb])) h3, h5⟩

theorem kg_set (K : KS) (j i : Nat) (x : Option Ent) (hj : j < K.length) : kg (K.set j x) i = if i = j then x else kg K i := by
  unfold kg
  by_cases h : i = j
  · subst h; simp [List.getD, List.getElem?_set, hj]
  · simp [List.getD, List.getElem?_set, Ne.symm h, h]
theorem kg_lt {K : KS} {j : Nat} {e : Ent} (h : kg K j = some e) : j < K.length := by
  unfold kg at h
  rcases Nat.lt_or_ge j K.length with h' | h'
  · exact h'
  · simp [List.getD, List.getElem?_eq_none h'] at h
theorem kg_push (K : KS) (x : Option Ent) (i : Nat) : kg (K ++ [x]) i = if i = K.length then x else kg K i := by
  unfold kg
  by_cases h : i = K.length
  · subst h; simp [List.getD]
  · by_cases hl : i < K.length
    · simp [List.getD, List.getElem?_append_left hl, h]
    · rw [if_neg h]
      simp [List.getD, List.getElem?_eq_none (show (K ++ [x]).length ≤ i by simp; omega), List.getElem?_eq_none (show K.length ≤ i by omega)]

section
variable {P : Program} {n : NE} {Y : Nat → Prop} {w0 : World} {F0 : Nat → Prop} {ρ : RHO} {f : Fr} {K : KS} {a : Act} {w : World}

theorem Same.weak {O O' : Nat → Prop} {E : EI} {w : World} (h : ∀ b, O' b → O b) : Same O E w O' E w :=
  ⟨Nat.le_refl _, fun _ _ _ => rfl, fun b hb _ h' => hb (h b h'), Nat.le_refl _, fun _ _ _ h => h, fun _ _ _ _ _ _ _ h => h⟩

theorem Sim.wrote [Wd] (hS : Sim n Y w0 F0 ρ f K a w) {j : Nat} {e e' : Ent} {w' : World} {off bl : Nat} {vs : List Value} {nb' : List Nat} (hj : kg K j = some e) (hbl : (ρ j).1 = some bl) (hP : Put w w' bl off vs)
    (hn : e'.n = e.n) (hl : e'.rows.length = e.rows.length) (hb : e'.isBox = e.isBox) (hR : RR w' (OO K ρ Y) (e'.E (EK K ρ)) e'.n bl 0 e'.rows nb') (hs : nb'.Sublist (ρ j).2) :
    ∃ ρ', Sim n Y w0 F0 ρ' f (K.set j (some e')) a w' := by
  have hjl := kg_lt hj
  have hE : EK (K.set j (some e')) (fun i => if i = j then ((ρ j).1, nb') else ρ i) = EK K ρ := by
    unfold EK
    congr 1
    · simp
    · funext i
      rw [kg_set _ _ _ _ hjl]
      by_cases h : i = j
      · subst h; simp [hj, hn, hl]
      · simp [h]
  have hsub : ∀ i e b, kg (K.set j (some e')) i = some e → b ∈ fp (fun i => if i = j then ((ρ j).1, nb') else ρ i) i → ∃ e0, kg K i = some e0 ∧ b ∈ fp ρ i := by
    intro i e0 b hi hb'
    rw [kg_set _ _ _ _ hjl] at hi
    by_cases h : i = j
    · subst h
      refine ⟨e, hj, ?_⟩
      simp only [fp, if_true] at hb' ⊢
      rcases List.mem_append.1 hb' with h | h
      · exact List.mem_append_left _ h
      · exact List.mem_append_right _ (hs.subset h)
    · rw [if_neg h] at hi
      exact ⟨e0, hi, by simpa [fp, h] using hb'⟩
  have hO : ∀ b, OO (K.set j (some e')) (fun i => if i = j then ((ρ j).1, nb') else ρ i) Y b → OO K ρ Y b := by
    rintro b (h | ⟨i, e0, hi, hb'⟩)
    · exact .inl h
    · obtain ⟨e1, h1, h2⟩ := hsub i e0 b hi hb'
      exact .inr ⟨i, e1, h1, h2⟩
  have hjO : OO K ρ Y bl := .inr ⟨j, e, hj, fp_hd hbl⟩
  have same : Same (OO K ρ Y) (EK K ρ) w (OO (K.set j (some e')) (fun i => if i = j then ((ρ j).1, nb') else ρ i) Y) (EK (K.set j (some e')) (fun i => if i = j then ((ρ j).1, nb') else ρ i)) w' := by
    rw [hE]
    exact ⟨Nat.le_of_eq hP.size.symm, fun b hb _ => hP.block b (fun h => hb (h ▸ hjO)), fun b hb _ h => hb (hO b h), Nat.le_refl _, fun _ _ _ h => h, fun _ _ _ _ _ _ _ h => hP.whole h⟩
  refine ⟨_, hS.lift same j ?_ ?_ ?_⟩
  · intro i e0 hi hij
    rw [kg_set _ _ _ _ hjl, if_neg hij] at hi
    refine ⟨hi, by simp [hij], fun b hb' => hP.block b (fun h => ?_)⟩
    subst h
    exact hS.sees.dj j e i e0 _ hj hi (Ne.symm hij) (fp_hd hbl) hb'
  · intro e0 h0
    rw [kg_set _ _ _ _ hjl, if_pos rfl] at h0
    injection h0 with h0; subst h0
    have hreg := hS.sees.reg j e hj
    rw [hbl] at hreg
    obtain ⟨hW, hR0, hbx⟩ := hreg
    have hnd := hS.sees.nd j e hj
    simp only [if_true, fp] at hnd ⊢
    have hss : ((ρ j).1.toList ++ nb').Sublist ((ρ j).1.toList ++ (ρ j).2) := List.Sublist.append (List.Sublist.refl _) hs
    refine ⟨?_, hnd.sublist hss, ?_⟩
    · refine Reg.at hbl ⟨?_, ?_, ?_⟩
      · rw [hl, hn]; exact hP.whole hW
      · rw [hE]
        have hw : Same (OO K ρ Y) (e'.E (EK K ρ)) w' (OO (K.set j (some e')) (fun i => if i = j then ((ρ j).1, nb') else ρ i) Y) (e'.E (EK K ρ)) w' := Same.weak hO
        exact RR.mono _ hw _ _ _ rfl (fun _ _ => rfl) hR
      · intro h
        rw [hb] at h
        have := hbx h
        rw [this] at hs
        exact List.sublist_nil.1 hs
    · intro b hb'
      have h1 := hss.subset hb'
      exact ⟨by rw [hP.size]; exact hS.sees.lt j e b hj h1, .inr ⟨j, e, hj, h1, .inl rfl⟩⟩
  · refine hS.ext.trans (G := fun b => b = bl) ⟨hP.os, hP.tape, hP.output, Nat.le_of_eq hP.size.symm, fun b _ hb => hP.block b hb, fun b m h => hP.whole h⟩ (fun _ h => h) (fun x hx hx' => ?_)
    subst hx'
    rcases hS.new j e _ hj (fp_hd hbl) with h | h
    · exact h
    · omega

theorem cell_one {v : AV} {x : Value} {O : Nat → Prop} (h : cellK K v = true) (hx : XR w O (EK K ρ) v x []) : oneCell x = true := by
  cases v <;> simp [cellK] at h <;> simp only [XR] at hx
  case b => simp [hx.1, oneCell]
  case i => simp [hx.1, oneCell]
  case s => simp [hx.1, oneCell]
  case nil => obtain ⟨⟨q, rfl⟩, _⟩ := hx; rfl
  case imm => obtain ⟨_, a, cap, rfl, _⟩ := hx; simp [oneCell]
  case iptr => obtain ⟨_, a, cap, rfl, _⟩ := hx; simp [oneCell]
  case clo => obtain ⟨_, vs, rfl, _⟩ := hx; simp [oneCell]
  case sl j =>
    obtain ⟨e, hj⟩ := Option.isSome_iff_exists.1 h
    cases hb : (ρ j).1 with
    | none => obtain ⟨q, rfl⟩ := hx.2.2.1 e.n e.rows.length (by simp [EK, hj, hb]); rfl
    | some b =>
      obtain ⟨cap, rfl, _⟩ := hx.2.2.2 b e.n e.rows.length (by simp [EK, hj, hb])
      rfl
  case ptr j i o =>
    obtain ⟨e, hj⟩ := Option.isSome_iff_exists.1 h
    cases hb : (ρ j).1 with
    | none => exact (hx.2.2.1 e.n e.rows.length (by simp [EK, hj, hb])).elim
    | some b => rw [hx.2.2.2 b e.n e.rows.length (by simp [EK, hj, hb])]; rfl
theorem closed_cellK {v : AV} (h : v.closed = true) : cellK K v = true := by
  cases v <;> simp [AV.closed, cellK] at h ⊢
theorem cells_one {x : Value} (h : oneCell x = true) : x.cells = #[x] := by cases x <;> simp [oneCell, Value.cells] at h ⊢
theorem XRs_one {O : Nat → Prop} : ∀ {vs : List AV} {xs : List Value}, vs.all (cellK K) = true → XRs w O (EK K ρ) vs xs [] → ∀ x ∈ xs, oneCell x = true
  | [], xs, _, h => by simp only [XRs] at h; simp [h.1]
  | v :: vs, xs, ha, h => by
    simp only [XRs] at h
    obtain ⟨x, xs', n1, n2, rfl, h2, h3, h4⟩ := h
    obtain ⟨rfl, rfl⟩ := List.append_eq_nil_iff.1 h2.symm
    simp only [List.all_cons, Bool.and_eq_true] at ha
    intro y hy
    rcases List.mem_cons.1 hy with rfl | hy
    · exact cell_one ha.1 h3
    · exact XRs_one ha.2 h4 y hy
/-- What may stand in a row says the same without the regions. -/
theorem XR_closed {O : Nat → Prop} {E : EI} {v : AV} {x : Value} {nb : List Nat} (h : v.closed = true) (hx : XR w O E v x nb) : XR w O EN v x nb := by
  cases v <;> simp [AV.closed] at h <;> simpa only [XR] using hx
theorem XRs_closed {O : Nat → Prop} {E : EI} : ∀ {vs : List AV} {xs : List Value} {nb : List Nat}, vs.all AV.closed = true → XRs w O E vs xs nb → XRs w O EN vs xs nb
  | [], xs, nb, _, h => by simpa only [XRs] using h
  | v :: vs, xs, nb, ha, h => by
    simp only [XRs] at h ⊢
    obtain ⟨x, xs', n1, n2, rfl, rfl, h3, h4⟩ := h
    simp only [List.all_cons, Bool.and_eq_true] at ha
    exact ⟨x, xs', n1, n2, rfl, rfl, XR_closed ha.1 h3, XRs_closed ha.2 h4⟩

/-- Cells of one's own, before and behind a write of 'us'. -/
theorem putCR {w' : World} {O : Nat → Prop} {E : EI} {bl o p : Nat} {cs ds : List AV} {us : List Value} {nb : List Nat} (same : Same O E w O E w') (hlen : p + ds.length ≤ cs.length)
    (hc : ∀ i, (i < p ∨ p + us.length ≤ i) → w'.cell? ⟨bl, o + i, none⟩ = w.cell? ⟨bl, o + i, none⟩) (hu : ∀ i, i < us.length → w'.cell? ⟨bl, o + p + i, none⟩ = us[i]?) (hX : XRs w O E ds us []) (ho : ∀ u ∈ us, oneCell u = true)
    (hn : ∀ b ∈ nb, w'.heap[b]? = w.heap[b]?) (h : CR w O E bl o cs nb) : ∃ nb', CR w' O E bl o (putCells cs p ds) nb' ∧ nb'.Sublist nb := by
  obtain ⟨vs, hl, hv, hx, hone⟩ := CR_vals h
  have hul := XRs_length hX
  obtain ⟨n1, n2, rfl, h1, h2⟩ := XRs_split p hx
  obtain ⟨m1, m2, rfl, h3, h4⟩ := XRs_split ds.length h2
  have e1 := XRs.mono _ same _ _ (fun b hb => hn b (by simp [hb])) h1
  have e2 := XRs.mono _ same _ _ (by simp) hX
  have e3 := XRs.mono _ same _ _ (fun b hb => hn b (by simp [hb])) h4
  have e := XRs_append (XRs_append e1 e2) e3
  refine ⟨n1 ++ [] ++ m2, CR_mk (vs := vs.take p ++ us ++ (vs.drop p).drop ds.length) (fun i hi => ?_) (fun v hv => by
      rcases List.mem_append.1 hv with hv | hv
      · rcases List.mem_append.1 hv with hv | hv
        · exact hone v (List.mem_of_mem_take hv)
        · exact ho v hv
      · exact hone v (List.mem_of_mem_drop (List.mem_of_mem_drop hv))) (by simpa [putCells, List.drop_drop, Nat.add_comm] using e), ?_⟩
  · have hi' : i < cs.length := by simp [putCells] at hi; omega
    by_cases hp : i < p
    · rw [hc i (.inl hp), hv i hi', List.append_assoc, List.getElem?_append_left (by simp; omega), List.getElem?_take, if_pos hp]
    · by_cases hq : i < p + us.length
      · have := hu (i - p) (by omega)
        rw [show o + p + (i - p) = o + i by omega] at this
        rw [this, List.append_assoc, List.getElem?_append_right (by simp; omega), List.getElem?_append_left (by simp; omega)]
        congr 1; simp; omega
      · rw [hc i (.inr (by omega)), hv i hi', List.getElem?_append_right (by simp; omega), List.getElem?_drop, List.getElem?_drop]
        congr 1; simp; omega
  · simp only [List.append_nil]
    exact List.Sublist.append (List.Sublist.refl _) (List.sublist_append_right _ _)

theorem cells_put {w w' : World} {b off : Nat} {vs : List Value} (h : Put w w' b off vs) :
    (∀ k, k < off ∨ off + vs.length ≤ k → w'.cell? ⟨b, k, none⟩ = w.cell? ⟨b, k, none⟩) ∧ ∀ i, i < vs.length → w'.cell? ⟨b, off + i, none⟩ = vs[i]? := by
  obtain ⟨c, el, c', h1, h2, h3, h4, h5⟩ := h.here
  refine ⟨fun k hk => ?_, fun i hi => ?_⟩
  · simp [World.cell?, h1, h2, h4 k hk]
  · simp [World.cell?, h2, h5 i hi]

theorem set_put (cs : List AV) (o : Nat) (v : AV) (h : o < cs.length) : cs.set o v = putCells cs o [v] := by
  unfold putCells
  rw [List.set_eq_take_append_cons_drop, if_pos h]; simp

/-- The cells that a store writes, and what stands there then. -/
theorem xput_ok {cs : List AV} {o : Nat} {t : TypeId} {v : AV} {x : Value} {ok : AV → Bool} {k : List AV → Prop} {l} (hok : ∀ v, ok v = true → cellK K v = true) {O : Nat → Prop}
    (h : xput cs o (tk P t) v ok k l) (hx : XR w O (EK K ρ) v x []) : ∃ ds, ∃ us : List Value, x.cells.toList = us ∧ tz P t = some us.length ∧ XRs w O (EK K ρ) ds us [] ∧ (∀ u ∈ us, oneCell u = true) ∧
      ds.all ok = true ∧ o + ds.length ≤ cs.length ∧ 0 < ds.length + 1 ∧ k (putCells cs o ds) := by
  unfold xput at h
  split at h
  · rename_i m ds ht
    split at h
    · rename_i hc
      obtain ⟨rfl, h2, h3⟩ := hc
      simp only [XR] at hx
      obtain ⟨vs, rfl, hX⟩ := hx
      exact ⟨ds, vs.toList, rfl, by rw [(tk_agg ht).1, XRs_length hX], hX, XRs_one (by simp only [List.all_eq_true] at h3 ⊢; exact fun v hv => hok v (h3 v hv)) hX, h3, h2, by omega, h⟩
    · exact h.elim
  · rename_i ht
    split at h
    · rename_i hc
      have h1 := cell_one (hok _ hc.2) hx
      refine ⟨[_], [x], by simp [cells_one h1], by simp [(tk_one ht).1], ?_, by simp [h1], (by simp only [List.all_cons, List.all_nil, Bool.and_true]; exact hc.2), by simp; omega, by simp, ?_⟩
      · simp only [XRs]; exact ⟨x, [], [], [], rfl, rfl, hx, by simp⟩
      · rw [← set_put _ _ _ hc.1]; exact h
    · exact h.elim
  · exact h.elim

theorem xstore_ok [Wd] (hS : Sim n Y w0 F0 ρ f K a w) {p v : AV} {k : KS → Prop} {l} {vp x : Value} {t : TypeId}
    (h : xstore K (tk P t) p v k l) (hp : XR w (OO K ρ Y) (EK K ρ) p vp []) (hx : XR w (OO K ρ Y) (EK K ρ) v x []) :
    ∃ K' ρ' w', (Instr.storeAt t vp x).run P w = .ok () w' ∧ Sim n Y w0 F0 ρ' f K' a w' ∧ k K' := by
  unfold xstore at h
  split at h
  · rename_i j i o
    split at h
    · rename_i cs hj
      split at h
      · rename_i hi
        subst hi
        obtain ⟨ds, us, hu, hz, hX, h1, hds, hl, _, hk⟩ := xput_ok (fun v h => h) h hx
        obtain ⟨bl, hbl, hv⟩ := XR_ptr_at hS hj hp
        obtain ⟨bl', hbl', hW, hR, hb⟩ := hS.mem hj (by simp [Ent.rows])
        obtain rfl : bl = bl' := by rw [hbl] at hbl'; injection hbl'
        have hb := hb rfl
        simp only [Ent.rows, Ent.n, Ent.E, RR] at hR hW
        obtain ⟨n1, n2, h2, _, hC, rfl⟩ := hR
        have hul := XRs_length hX
        obtain ⟨w', hr, hP⟩ := storeCells_run (P := P) (b := bl) (off := 0 * cs.length + o) us 0 hW (by simp; omega) h1
        have hP' : Put w w' bl o us := by simpa using hP
        obtain ⟨hc1, hc2⟩ := cells_put hP'
        have hjO : OO K ρ Y bl := .inr ⟨j, _, hj, fp_hd hbl⟩
        have same : Same (OO K ρ Y) (EK K ρ) w (OO K ρ Y) (EK K ρ) w' :=
          ⟨Nat.le_of_eq hP.size.symm, fun b hb _ => hP.block b (fun h => hb (h ▸ hjO)), fun b hb _ h => hb h, Nat.le_refl _, fun _ _ _ h => h, fun _ _ _ _ _ _ _ h => hP.whole h⟩
        rw [hb] at h2
        obtain ⟨rfl, _⟩ := List.append_eq_nil_iff.1 h2.symm
        obtain ⟨nb', hC', hs⟩ := putCR (o := 0) (p := o) (ds := ds) (us := us) same hl (fun i hi => by rw [Nat.zero_add]; exact hc1 i hi) (fun i hi => by rw [Nat.zero_add]; exact hc2 i hi) hX h1 (by simp) hC
        have := List.sublist_nil.1 hs
        subst this
        obtain ⟨ρ', hS'⟩ := hS.wrote (e' := .box (putCells cs o ds)) (nb' := []) hj hbl hP' (by simp [Ent.n, putCells]; omega) rfl rfl (by
          simp only [Ent.rows, Ent.n, Ent.E, RR]
          exact ⟨[], [], by simp, by simp, hC', by simp⟩) (by simp)
        refine ⟨_, ρ', w', ?_, hS', hk⟩
        simp only [Instr.storeAt, Instr.sureAddr, hv, Sem.run_bind, Sem.run_pure, Result.andThen_ok, storeVar, run_sizeOf hz, Ent.n]
        rw [if_neg (by rw [← hu]; simp)]
        rw [hu]; exact hr
      · exact h.elim
    · rename_i m rows hj
      split at h
      · rename_i hi
        obtain ⟨ds, us, hu, hz, hX, h1, hds, hl, _, hk⟩ := xput_ok (fun v h => closed_cellK h) h hx
        obtain ⟨bl, hbl, hv⟩ := XR_ptr_at hS hj hp
        obtain ⟨bl', hbl', hW, hR, hb⟩ := hS.mem hj (by simp only [Ent.rows]; rintro rfl; simp at hi)
        obtain rfl : bl = bl' := by rw [hbl] at hbl'; injection hbl'
        simp only [Ent.rows, Ent.n, Ent.E] at hR hW hv
        have hul := XRs_length hX
        obtain ⟨nb0, hr0, _, _⟩ := RR_row hR hi
        have hro : (i + 1) * m ≤ rows.length * m := Nat.mul_le_mul_right m hi
        have hro' : (i + 1) * m = i * m + m := Nat.succ_mul i m
        obtain ⟨w', hr, hP⟩ := storeCells_run (P := P) (b := bl) (off := i * m + o) us 0 hW (by omega) h1
        have hP' : Put w w' bl (i * m + o) us := by simpa using hP
        obtain ⟨hc1, hc2⟩ := cells_put hP'
        have hjO : OO K ρ Y bl := .inr ⟨j, _, hj, fp_hd hbl⟩
        have same : Same (OO K ρ Y) EN w (OO K ρ Y) EN w' :=
          ⟨Nat.le_of_eq hP.size.symm, fun b hb _ => hP.block b (fun h => hb (h ▸ hjO)), fun b hb _ h => hb h, Nat.le_refl _, fun _ _ _ h => h, fun _ _ _ _ _ _ _ h => hP.whole h⟩
        have hnd := hS.sees.nd j _ hj
        have hne : ∀ b ∈ (ρ j).2, w'.heap[b]? = w.heap[b]? := fun b hb => hP.block b (fun h => by
          subst h; simp [fp, hbl] at hnd; exact hnd.1 hb)
        obtain ⟨nb', hR', hs⟩ := RR_set same (r' := putCells (rowOf rows i) o ds) (by simp [putCells]; omega) (rs := rows) (bl := bl) (off := 0) (nb := (ρ j).2) hi
          (fun k hk => by
            rw [Nat.zero_add]
            refine hc1 k ?_
            rcases hk with hk | hk
            · exact .inl (by omega)
            · exact .inr (by omega)) hne (fun q hq hC => by
            rw [Nat.zero_add] at hC ⊢
            exact putCR same hl (fun z hz => by
              rcases hz with hz | hz
              · exact hc1 _ (.inl (by omega))
              · exact hc1 _ (.inr (by omega))) (fun z hz => by rw [Nat.add_assoc]; rw [← Nat.add_assoc]; exact hc2 z hz) (XRs_closed hds hX) h1 (fun b hb => hne b (hq.subset hb)) hC) hR
        obtain ⟨ρ', hS'⟩ := hS.wrote (e' := .lst m (rows.set i (putCells (rowOf rows i) o ds))) (nb' := nb') hj hbl hP' rfl (by simp [Ent.rows]) rfl (by simpa [Ent.rows, Ent.n, Ent.E] using hR') hs
        refine ⟨_, ρ', w', ?_, hS', hk⟩
        simp only [Instr.storeAt, Instr.sureAddr, hv, Sem.run_bind, Sem.run_pure, Result.andThen_ok, storeVar, run_sizeOf hz]
        rw [if_neg (by rw [← hu]; simp)]
        rw [hu]; exact hr
      · exact h.elim
    · exact h.elim
  · exact h.elim
end
end Go.Proofs.Ytcpelionmmnogaa.Am
