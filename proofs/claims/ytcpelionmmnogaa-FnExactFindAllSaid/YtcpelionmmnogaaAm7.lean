/- An abstract machine for the walks: append is right. No condition. -/
import Derived.Test.YtcpelionmmnogaaAm6
import Derived.Laws.Append
namespace Go.Proofs.Ytcpelionmmnogaa.Am
open Go
set_option linter.unusedVariables false
set_option linter.unusedSimpArgs false
section
variable {P : Program} {n : NE} {Y : Nat → Prop} {w0 : World} {F0 : Nat → Prop} {ρ : RHO} {f : Fr} {K : KS} {a : Act} {w : World}

theorem Sim.heap_eq [Wd] (hS : Sim n Y w0 F0 ρ f K a w) {w' : World} (h : w'.heap = w.heap) (hos : w'.os = w.os) (hta : w'.tape = w.tape) (hou : w'.output = w.output) : Sim n Y w0 F0 ρ f K a w' := by
  have hs : Same (OO K ρ Y) (EK K ρ) w (OO K ρ Y) (EK K ρ) w' := ⟨by rw [h]; exact Nat.le_refl _, fun _ _ _ => by rw [h], fun _ h _ => h, Nat.le_refl _, fun _ _ _ h => h, fun _ _ _ _ _ _ _ hw => hw.same (by rw [h])⟩
  exact hS.liftM hs (fun _ => False) (fun j e hj _ => ⟨hj, rfl, fun _ _ => by rw [h]⟩) (fun _ _ _ h => h.elim) (fun _ _ _ _ _ _ _ h => h.elim)
    (hS.ext.trans (G := FF) ⟨hos, hta, hou, by rw [h]; exact Nat.le_refl _, fun _ _ _ => by rw [h], fun b m hw => hw.same (by rw [h])⟩ (fun _ h => h) (fun _ _ h => h.elim))

theorem Sim.drop [Wd] (hS : Sim n Y w0 F0 ρ f K a w) {K1 : KS} (hl : K1.length = K.length) (hk : ∀ i e, kg K1 i = some e → kg K i = some e) : Sim n Y w0 F0 ρ f K1 a w := by
  have hs : Same (OO K ρ Y) (EK K ρ) w (OO K1 ρ Y) (EK K1 ρ) w := by
    refine ⟨Nat.le_refl _, fun _ _ _ => rfl, fun b hb _ h => hb ?_, by simp [EK, hl], fun j p _ hp => ?_, fun _ _ _ _ _ _ _ h => h⟩
    · rcases h with h | ⟨i, e, hi, h⟩
      · exact .inl h
      · exact .inr ⟨i, e, hk i e hi, h⟩
    · simp only [EK] at hp ⊢
      cases h : kg K1 j with
      | none => rw [h] at hp; cases hp
      | some e => rw [h] at hp; rw [hk j e h]; exact hp
  exact hS.liftM hs (fun _ => False) (fun j e hj _ => ⟨hk j e hj, rfl, fun _ _ => rfl⟩) (fun _ _ _ h => h.elim) (fun _ _ _ _ _ _ _ h => h.elim) hS.ext

theorem RR_vals {O : Nat → Prop} {E : EI} {m : Nat} : ∀ {rs : List (List AV)} {bl off : Nat} {nb : List Nat}, RR w O E m bl off rs nb →
    ∃ vs : List Value, vs.length = rs.length * m ∧ (∀ i, i < vs.length → w.cell? ⟨bl, off + i, none⟩ = vs[i]?) ∧ XRs w O E rs.flatten vs nb ∧ (∀ v ∈ vs, oneCell v = true) ∧ ∀ r ∈ rs, r.length = m
  | [], bl, off, nb, h => by simp only [RR] at h; exact ⟨[], by simp, by simp, by simp [XRs, h], by simp, by simp⟩
  | r :: rs, bl, off, nb, h => by
    simp only [RR] at h
    obtain ⟨n1, n2, rfl, hr, h3, h4⟩ := h
    obtain ⟨vs, h5, h6, h7, h8⟩ := CR_vals h3
    obtain ⟨us, g1, g2, g3, g4, g5⟩ := RR_vals h4
    refine ⟨vs ++ us, by simp [Nat.succ_mul, g1, h5, hr]; omega, fun i hi => ?_, by simpa using XRs_append h7 g3, fun v hv => by rcases List.mem_append.1 hv with hv | hv; exact h8 v hv; exact g4 v hv, fun q hq => by rcases List.mem_cons.1 hq with rfl | hq; exact hr; exact g5 q hq⟩
    by_cases hi' : i < vs.length
    · rw [h6 i (by omega), List.getElem?_append_left hi']
    · rw [List.getElem?_append_right (by omega)]
      have := g2 (i - vs.length) (by simp at hi; omega)
      rw [← this]; congr 2; omega
theorem RR_append {O : Nat → Prop} {E : EI} {m : Nat} : ∀ {r1 r2 : List (List AV)} {bl off : Nat} {n1 n2 : List Nat}, RR w O E m bl off r1 n1 → RR w O E m bl (off + r1.length * m) r2 n2 → RR w O E m bl off (r1 ++ r2) (n1 ++ n2)
  | [], r2, bl, off, n1, n2, h1, h2 => by simp only [RR] at h1; subst h1; simpa using h2
  | r :: r1, r2, bl, off, n1, n2, h1, h2 => by
    simp only [RR] at h1
    obtain ⟨a1, a2, rfl, hr, h3, h4⟩ := h1
    simp only [List.cons_append, RR]
    refine ⟨a1, a2 ++ n2, by simp, hr, h3, RR_append h4 ?_⟩
    have e : off + (r :: r1).length * m = off + m + r1.length * m := by simp [Nat.succ_mul]; omega
    rw [e] at h2; exact h2

theorem loadCells_run {bl o m : Nat} {vs : List Value} (hl : vs.length = m) (h : ∀ i, i < m → w.cell? ⟨bl, o + i, none⟩ = vs[i]?) : (loadCells ⟨bl, o, none⟩ m).run P w = .ok vs.toArray w := by
  unfold loadCells
  rw [loadCellsFrom_run bl o m 0 #[] vs hl (fun i hi => by rw [Nat.zero_add]; exact h i hi)]
  simp

/-- What an append copies. -/
theorem src_ok [Wd] (hS : Sim n Y w0 F0 ρ f K a w) {x : AV} {vx : Value} {m : Nat} {rows : List (List AV)} {K1 : KS} (h : srcRows K m x = some (rows, K1)) (hx : XR w (OO K ρ Y) (EK K ρ) x vx []) :
    ∃ vs nb, (∀ w', w'.heap = w.heap → (Builtin.firstCells m rows.length vx).run P w' = .ok vs.toArray w') ∧ (∀ w', (Builtin.lenOf vx).run P w' = .ok rows.length w') ∧ XRs w (OO K ρ Y) EN rows.flatten vs nb ∧ vs.length = rows.length * m ∧ (∀ v ∈ vs, oneCell v = true) ∧ (∀ r ∈ rows, r.length = m) ∧
      K1.length = K.length ∧ (∀ i e, kg K1 i = some e → kg K i = some e) ∧ (∀ b ∈ nb, ∃ j e, kg K j = some e ∧ kg K1 j = none ∧ b ∈ fp ρ j) ∧ nb.Nodup ∧ (∀ i e, kg K1 i = some e → ∀ b ∈ fp ρ i, b ∉ nb) := by
  unfold srcRows at h
  split at h
  · injection h with h; injection h with e1 e2; subst e1 e2
    simp only [XR] at hx
    obtain ⟨⟨q, rfl⟩, _⟩ := hx
    refine ⟨[], [], fun w' _ => ?_, fun w' => by simp [Builtin.lenOf], by simp [XRs], by simp, by simp, by simp, rfl, fun _ _ h => h, by simp, by simp, by simp⟩
    cases q <;> simp [Builtin.firstCells, loadCells, loadCellsFrom]
  · split at h
    · rename_i hm
      subst hm
      injection h with h; injection h with e1 e2; subst e1 e2
      simp only [XR] at hx
      obtain ⟨_, q, cap, rfl, hc, hr⟩ := hx
      rcases hr with rfl | ⟨bl, off, rfl, hO, hb, hR⟩
      · refine ⟨[], [], fun w' _ => ?_, fun w' => by simp [Builtin.lenOf], by simp [XRs], by simp, by simp, by simp, rfl, fun _ _ h => h, by simp, by simp, by simp⟩
        cases q <;> simp [Builtin.firstCells, loadCells, loadCellsFrom]
      · obtain ⟨vs, h1, h2, h3, h4, h5⟩ := RR_vals hR
        refine ⟨vs, [], fun w' hw => ?_, fun w' => by simp [Builtin.lenOf], h3, h1, h4, h5, rfl, fun _ _ h => h, by simp, by simp, by simp⟩
        simp only [Builtin.firstCells]
        exact loadCells_run (w := w') h1 (fun i hi => (cell_same (w := w) (w' := w') (by rw [hw])).trans (h2 i (by omega)))
    · cases h
  · rename_i k
    split at h
    · rename_i m' rows' hk
      split at h
      · rename_i hm
        subst hm
        injection h with h; injection h with e1 e2; subst e1 e2
        have hkl := kg_lt hk
        have hreg := hS.sees.reg k _ hk
        obtain ⟨ad, cap, rfl, hc, hW⟩ := XR_sl_at hS hk hx
        rcases hW with ⟨hb0, rfl, h0⟩ | ⟨bl, hb0, rfl, hW⟩
        · simp only [Ent.rows] at h0
          subst h0
          refine ⟨[], [], fun w' _ => ?_, fun w' => by simp [Builtin.lenOf, Ent.rows], by simp [XRs], by simp, by simp, by simp, by simp, fun i e hi => ?_, by simp, by simp, by simp⟩
          · cases ad <;> simp [Builtin.firstCells, loadCells, loadCellsFrom]
          · rw [kg_set _ _ _ _ hkl] at hi
            split at hi
            · cases hi
            · exact hi
        rw [hb0] at hreg
        obtain ⟨hW', hR, _⟩ := hreg
        obtain ⟨vs, h1, h2, h3, h4, h5⟩ := RR_vals hR
        refine ⟨vs, (ρ k).2, fun w' hw => ?_, fun w' => by simp [Builtin.lenOf, Ent.rows], h3, h1, h4, h5, by simp, fun i e hi => ?_, fun b hb => ⟨k, _, hk, by rw [kg_set _ _ _ _ hkl]; simp, by simp [fp, hb]⟩, ?_, ?_⟩
        · simp only [Builtin.firstCells]
          exact loadCells_run (w := w') h1 (fun i hi => (cell_same (w := w) (w' := w') (by rw [hw])).trans (h2 i (by rw [h1]; exact hi)))
        · rw [kg_set _ _ _ _ hkl] at hi
          split at hi
          · cases hi
          · exact hi
        · have := hS.sees.nd k _ hk
          simp [fp, hb0] at this; exact this.2
        · intro i e hi b hb hb'
          rw [kg_set _ _ _ _ hkl] at hi
          split at hi
          · cases hi
          · rename_i hik
            exact hS.sees.dj i e k _ b hi hk hik hb (by simp [fp, hb'])
      · cases h
    · cases h
  · cases h

theorem tnoint_at {t : TypeId} (h : tnoint P t = true) : ∃ d, P.underlying t = some d ∧ ((∃ e, d = .slice e) ∨ d = .string) := by
  unfold tnoint at h
  split at h
  · rename_i e hu; exact ⟨_, hu, .inl ⟨_, rfl⟩⟩
  · rename_i hu; exact ⟨_, hu, .inr rfl⟩
  · cases h
theorem tb_at {t : TypeId} {b : Nat} (h : tb P t = some b) : ∃ i, P.info? t = some i ∧ i.bytes = b := by
  unfold tb at h
  cases hi : P.info? t with
  | none => rw [hi] at h; cases h
  | some i => rw [hi] at h; simp at h; exact ⟨i, rfl, h⟩

theorem zeroCells_toList (z : Array Value) (q : Nat) (hz : 0 < z.size) : (Builtin.zeroCells z q).toList = (List.replicate q z.toList).flatten := by
  unfold Builtin.zeroCells
  exact zeros_ok hz q

/-- The value and the region of an append that finds room, or makes it. -/
theorem grow_ok [Wd] (hS : Sim n Y w0 F0 ρ f K a w) {K1 : KS} {m : Nat} {rows : List (List AV)} {nb : List Nat} {vs rest : List Value} {el : TypeId} {w1 : World} {cap : Nat} (hh : w1.heap = w.heap) (hos : w1.os = w.os) (hta : w1.tape = w.tape) (hou : w1.output = w.output)
    (hl : K1.length = K.length) (hk : ∀ i e, kg K1 i = some e → kg K i = some e) (hX : XRs w (OO K ρ Y) EN rows.flatten vs nb) (hv : vs.length = rows.length * m) (ho : ∀ v ∈ vs, oneCell v = true) (hr : ∀ r ∈ rows, r.length = m)
    (hnb : ∀ b ∈ nb, ∃ j e, kg K j = some e ∧ kg K1 j = none ∧ b ∈ fp ρ j) (hnd : nb.Nodup) (hcap : rows.length ≤ cap) (hrest : rest.length = (cap - rows.length) * m) :
    ∃ ρ', Sim n Y w0 F0 ρ' f (K1 ++ [some (.lst m rows)]) a (wnew w1 (vs ++ rest).toArray el) ∧
      XR (wnew w1 (vs ++ rest).toArray el) (OO (K1 ++ [some (.lst m rows)]) ρ' Y) (EK (K1 ++ [some (.lst m rows)]) ρ') (.sl K.length) (.slice (some ⟨w1.heap.size, 0, none⟩) rows.length cap) [] := by
  have hS1 := hS.heap_eq hh hos hta hou
  have hs : Same (OO K ρ Y) EN w (OO K ρ Y) EN w1 := ⟨by rw [hh]; exact Nat.le_refl _, fun _ _ _ => by rw [hh], fun _ h _ => h, Nat.le_refl _, fun _ _ _ h => h, fun _ _ _ _ _ _ _ hw => hw.same (by rw [hh])⟩
  obtain ⟨ρ', s1, s2, s3⟩ := hS1.push (K1 := K1) hl hk (e := .lst m rows) (nb := nb) (c := (vs ++ rest).toArray) (el := el) (vs := vs) hr (XRs.mono _ hs _ _ (fun _ _ => by rw [hh]) hX)
    (fun i hi => by simp [List.getElem?_append_left hi]) ho (by simp [Ent.rows, Ent.n, hv]) hnb hnd (fun h => by cases h)
  refine ⟨ρ', s1, ?_⟩
  simp only [XR, true_and]
  refine ⟨by rw [s3]; omega, fun m' len' hE => (by rw [s2] at hE; cases hE), fun bl m' len' hE => ?_⟩
  rw [s2] at hE
  injection hE with hE; injection hE with e1 hE; injection hE with e2 e3; injection e1 with e1
  subst e1 e2 e3
  refine ⟨cap, rfl, hcap, ?_⟩
  refine ⟨_, el, wnew_here _ _ _, ?_⟩
  simp only [List.size_toArray, List.length_append, hv, hrest, Ent.n]
  rw [← Nat.add_mul]
  exact Nat.mul_le_mul_right m (by omega)

/-- A region without memory. -/
theorem Sim.addNil [Wd] (hS : Sim n Y w0 F0 ρ f K a w) {K1 : KS} (hl : K1.length = K.length) (hk : ∀ i e, kg K1 i = some e → kg K i = some e) (m : Nat) :
    ∃ ρ', Sim n Y w0 F0 ρ' f (K1 ++ [some (.lst m [])]) a w ∧ ∀ (O : Nat → Prop) (q : Option Addr), XR w O (EK (K1 ++ [some (.lst m [])]) ρ') (.sl K.length) (.slice q 0 0) [] := by
  let ρ' : RHO := fun i => if i = K.length then (none, []) else ρ i
  have hg : ∀ i, kg (K1 ++ [some (.lst m [])]) i = if i = K.length then some (.lst m []) else kg K1 i := fun i => by rw [kg_push, hl]
  have hKn : kg K K.length = none := by simp [kg, List.getD]
  have hO : ∀ x, OO (K1 ++ [some (.lst m [])]) ρ' Y x → OO K ρ Y x := by
    rintro x (h | ⟨i, e0, hi, hx⟩)
    · exact .inl h
    · rw [hg] at hi
      by_cases h : i = K.length
      · subst h; simp [fp, ρ'] at hx
      · rw [if_neg h] at hi
        exact .inr ⟨i, e0, hk _ _ hi, by simpa [fp, ρ', h] using hx⟩
  have same : Same (OO K ρ Y) (EK K ρ) w (OO (K1 ++ [some (.lst m [])]) ρ' Y) (EK (K1 ++ [some (.lst m [])]) ρ') w := by
    refine ⟨Nat.le_refl _, fun _ _ _ => rfl, fun x hx _ h => hx (hO x h), by simp [EK, hl], fun j p hj hp => ?_, fun _ _ _ _ _ _ _ h => h⟩
    simp only [EK] at hj hp ⊢
    rw [hg] at hp
    have : j ≠ K.length := by omega
    rw [if_neg this] at hp
    cases h1 : kg K1 j with
    | none => rw [h1] at hp; cases hp
    | some e1 => rw [h1] at hp; rw [hk _ _ h1]; simpa [ρ', this] using hp
  refine ⟨ρ', hS.lift same K.length ?_ ?_ hS.ext, fun O q => ?_⟩
  · intro i e0 hi hij
    rw [hg, if_neg hij] at hi
    exact ⟨hk _ _ hi, by simp [ρ', hij], fun _ _ => rfl⟩
  · intro e0 h0
    rw [hg, if_pos rfl] at h0
    injection h0 with h0; subst h0
    have e1 : ρ' K.length = (none, []) := by simp [ρ']
    simp only [e1, fp]
    exact ⟨⟨rfl, rfl⟩, by simp, by simp⟩
  · simp only [XR, true_and]
    refine ⟨by simp [EK, hl], fun _ _ _ => ⟨q, rfl⟩, fun bl k len hE => ?_⟩
    simp [EK, hg, ρ'] at hE

/-- The run of an append that has no room. -/
theorem append_grow {T : Array TypeId} {t tx ty el : TypeId} {dx : TypeDesc} {m b' : Nat} {zv : Value} {base : Option Addr} {len cap q : Nat} {vx : Value} {old us : List Value}
    (hT : T[0]? = some t) (hTx : T[1]? = some tx) (hu : P.underlying t = some (.slice el)) (hux : P.underlying tx = some dx) (hdx : (∃ e, dx = .slice e) ∨ dx = .string) (hz : tz P el = some m) (hb : tb P el = some (b' + 1)) (hzv : tzero P el = some zv)
    (hlen : ∀ w', (Builtin.lenOf vx).run P w' = .ok q w') (hnew : ∀ w', w'.heap = w.heap → (Builtin.firstCells m q vx).run P w' = .ok us.toArray w')
    (hold : ∀ w', w'.heap = w.heap → (Builtin.firstCells m len (.slice base len cap)).run P w' = .ok old.toArray w') (hgrow : cap < len + q) (hfit : (len + q) * (b' + 1) ≤ 140737488355328) :
    ∃ w1 nc, w1.heap = w.heap ∧ w1.os = w.os ∧ w1.tape = w.tape ∧ w1.output = w.output ∧ len + q ≤ nc ∧
      (Builtin.append_ T ty #[.slice base len cap, vx]).run P w = .ok (.slice (some ⟨w1.heap.size, 0, none⟩) (len + q) nc) (wnew w1 (old.toArray ++ us.toArray ++ Builtin.zeroCells zv.cells (nc - (len + q))) el) := by
  obtain ⟨i, hi, hbi⟩ := tb_at hb
  have hg := growslice_fits hgrow hfit
  have hne : ¬ (len + q ≤ cap) := by omega
  have hng : ¬ (2 ^ 48 < Builtin.nextslicecap (len + q) cap * i.bytes) := by rw [hbi]; omega
  have hb0 : ¬ (i.bytes = 0) := by omega
  refine ⟨{ w with drawn := w.drawn + 1 }, (Question.appendCap (len + q) cap el).cut (w.tape w.drawn (Question.appendCap (len + q) cap el)), rfl, rfl, rfl, rfl, ?_, ?_⟩
  · simp [Question.cut]
  · have h1' := hold w.drew rfl
    have h2' := hnew w.drew rfl
    rcases hdx with ⟨e, rfl⟩ | rfl
    · simp [Builtin.append_, hT, hTx, run_under hu, run_under hux, run_sizeOf hz, hlen, hne, typeInfo, hi, hng, hb0, Question.forced, run_zero hzv, newRow_run]
      rw [h1', Result.andThen_ok, h2', Result.andThen_ok, ← Array.append_assoc]
      simp only [List.append_toArray]
      rfl
    · simp [Builtin.append_, hT, hTx, run_under hu, run_under hux, run_sizeOf hz, hlen, hne, typeInfo, hi, hng, hb0, Question.forced, run_zero hzv, newRow_run]
      rw [h1', Result.andThen_ok, h2', Result.andThen_ok, ← Array.append_assoc]
      simp only [List.append_toArray]
      rfl

/-- The run of an append that has room. -/
theorem append_fits {T : Array TypeId} {t tx ty el : TypeId} {dx : TypeDesc} {m : Nat} {base : Option Addr} {len cap q : Nat} {vx : Value} {us : List Value}
    (hT : T[0]? = some t) (hTx : T[1]? = some tx) (hu : P.underlying t = some (.slice el)) (hux : P.underlying tx = some dx) (hdx : (∃ e, dx = .slice e) ∨ dx = .string) (hz : tz P el = some m)
    (hlen : ∀ w', (Builtin.lenOf vx).run P w' = .ok q w') (hnew : ∀ w', w'.heap = w.heap → (Builtin.firstCells m q vx).run P w' = .ok us.toArray w')
    (hfit : len + q ≤ cap) {w' : World} (hw : ∀ b o, base = some ⟨b, o, none⟩ → (storeCells ⟨b, o + len * m, none⟩ us).run P w = .ok () w') (hb : base = none → w' = w) (hspot : ∀ a, base = some a → a.spot = none) :
      (Builtin.append_ T ty #[.slice base len cap, vx]).run P w = .ok (.slice base (len + q) cap) w' := by
  have h1 := hnew w rfl
  cases base with
  | none =>
    have := hb rfl; subst this
    rcases hdx with ⟨e, rfl⟩ | rfl <;> simp [Builtin.append_, hT, hTx, run_under hu, run_under hux, run_sizeOf hz, hlen, hfit, h1]
  | some a =>
    obtain ⟨b, o, s⟩ := a
    have := hspot _ rfl
    simp only at this
    subst this
    have h2 := hw b o rfl
    rcases hdx with ⟨e, rfl⟩ | rfl <;> simp [Builtin.append_, hT, hTx, run_under hu, run_under hux, run_sizeOf hz, hlen, hfit, h1, add_none, h2]

theorem xappend_ok [Wd] (hS : Sim n Y w0 F0 ρ f K a w) {s x : AV} {k : AV → KS → Prop} {l} {vs vx : Value} {T : Array TypeId} {t tx ty : TypeId} {el : TypeId} {b : Option Nat} {q : Option (TypeId × Nat × List AV)} (hT : T[0]? = some t) (hTx : T[1]? = some tx) (hni : tnoint P tx = true)
    (hq : q = tse P t) (hb : ∀ e m z, q = some (e, m, z) → b = tb P e)
    (h : xappend K q b s x k l) (hs : XR w (OO K ρ Y) (EK K ρ) s vs []) (hx : XR w (OO K ρ Y) (EK K ρ) x vx []) :
    ∃ y w', (Builtin.append_ T ty #[vs, vx]).run P w = .ok y w' ∧ Out n Y w0 F0 f a k y w' := by
  unfold xappend at h
  split at h
  · rename_i _ _ e m z b'
    obtain ⟨hu, hz, hzc, hzl, hm⟩ := tse_at hq.symm
    have hb' := (hb e m z rfl).symm
    obtain ⟨dx, hux, hdx⟩ := tnoint_at hni
    obtain ⟨zv, hzv, rfl, hzo⟩ := tzc_at hzc
    have hzs : zv.cells.size = m := by simpa using hzl
    split at h
    · rename_i rows' K1 hsrc
      obtain ⟨us, nb', g1, g2, g3, g4, g5, g6, g7, g8, g9, g10, g11⟩ := src_ok (P := P) hS hsrc hx
      have hzl0 : ∀ q, (Builtin.zeroCells zv.cells q).size = q * m := fun q => by
        have := congrArg List.length (zeroCells_toList zv.cells q (by omega))
        simpa [hzs] using this
      have nilcase : ∀ {K1 : KS} {us : List Value} {nb' : List Nat}, K1.length = K.length → (∀ i e, kg K1 i = some e → kg K i = some e) →
          (∀ w', w'.heap = w.heap → (Builtin.firstCells m rows'.length vx).run P w' = .ok us.toArray w') → (∀ w', (Builtin.lenOf vx).run P w' = .ok rows'.length w') → XRs w (OO K ρ Y) EN rows'.flatten us nb' → us.length = rows'.length * m → (∀ v ∈ us, oneCell v = true) → (∀ r ∈ rows', r.length = m) →
          (∀ b ∈ nb', ∃ j e, kg K j = some e ∧ kg K1 j = none ∧ b ∈ fp ρ j) → nb'.Nodup → ∀ (base : Option Addr), rows'.length * (b' + 1) ≤ 140737488355328 → k (.sl K.length) (K1 ++ [some (.lst m rows')]) →
          ∃ y w', (Builtin.append_ T ty #[.slice base 0 0, vx]).run P w = .ok y w' ∧ Out n Y w0 F0 f a k y w' := by
        intro K1 us nb' g7 g8 g1 g2 g3 g4 g5 g6 g9 g10 base hfit hk
        by_cases hr0 : rows' = []
        · subst hr0
          have hus : us = [] := List.length_eq_zero_iff.1 (by simpa using g4)
          subst hus
          have h0 : (Builtin.append_ T ty #[.slice base 0 0, vx]).run P w = .ok (.slice base 0 0) w := by
            have h1 : (Builtin.firstCells m 0 vx).run P w = .ok #[] w := by simpa using g1 w rfl
            have h2 : ∀ w', (Builtin.lenOf vx).run P w' = .ok 0 w' := by simpa using g2
            rcases hdx with ⟨e', rfl⟩ | rfl
            · simp [Builtin.append_, hT, hTx, run_under hu, run_under hux, run_sizeOf hz, h2, h1]
              cases base <;> simp [storeCells]
            · simp [Builtin.append_, hT, hTx, run_under hu, run_under hux, run_sizeOf hz, h2, h1]
              cases base <;> simp [storeCells]
          obtain ⟨ρ', s1, s2⟩ := hS.addNil g7 g8 m
          exact ⟨_, _, h0, _, _, ρ', s1, s2 _ _, hk⟩
        · have hlpos : 0 < rows'.length := List.length_pos_iff.2 hr0
          obtain ⟨w1, nc, q1, q2, q3, q4, q5, q6⟩ := append_grow (w := w) (ty := ty) hT hTx hu hux hdx hz hb' hzv g2 g1 (base := base) (len := 0) (cap := 0) (old := []) (fun w' hw => by
              cases base <;> simp [Builtin.firstCells, loadCells, loadCellsFrom]) (by omega) (by simpa using hfit)
          obtain ⟨ρ', s1, s2⟩ := grow_ok hS (K1 := K1) (m := m) (rows := rows') (nb := nb') (vs := us) (rest := (Builtin.zeroCells zv.cells (nc - (0 + rows'.length))).toList) (el := e) (cap := nc) q1 q2 q3 q4 g7 g8 g3 g4 g5 g6 g9 g10 (by omega) (by simp [hzl0])
          have ec : (us ++ (Builtin.zeroCells zv.cells (nc - (0 + rows'.length))).toList).toArray = [].toArray ++ us.toArray ++ Builtin.zeroCells zv.cells (nc - (0 + rows'.length)) := by
            apply Array.ext'; simp
          rw [ec] at s1 s2
          refine ⟨_, _, q6, _, _, ρ', s1, ?_, hk⟩
          simpa using s2
      split at h
      · rename_i j
        split at h
        · rename_i n' rows hj
          split at h
          · rename_i hnm
            subst hnm
            obtain ⟨hfit, h⟩ := h
            have hjK := g8 j _ hj
            have hreg := hS.sees.reg j _ hjK
            obtain ⟨ad, cap, rfl, hc1, hW⟩ := XR_sl_at hS hjK hs
            have hjl := kg_lt hj
            have hl1 : (K1.set j none).length = K.length := by simp [g7]
            have hk1 : ∀ i e, kg (K1.set j none) i = some e → i ≠ j ∧ kg K1 i = some e := fun i e hi => by
              rw [kg_set _ _ _ _ hjl] at hi
              split at hi
              · cases hi
              · exact ⟨by assumption, hi⟩
            have hkj : kg (K1.set j none) j = none := by rw [kg_set _ _ _ _ hjl]; simp
            rcases hW with ⟨hbl, rfl, h0⟩ | ⟨bl, hbl, rfl, hW⟩
            · simp only [Ent.rows] at h0
              subst h0
              exact nilcase (K1 := K1.set j none) hl1 (fun i e hi => g8 i e (hk1 i e hi).2) g1 g2 g3 g4 g5 g6 (fun b hb => by
                obtain ⟨i, e, h1, h2, h3⟩ := g9 b hb
                refine ⟨i, e, h1, ?_, h3⟩
                cases h4 : kg (K1.set j none) i with
                | none => rfl
                | some e' => have := (hk1 i e' h4).2; rw [h2] at this; cases this) g10 ad (by simpa using hfit) (by simpa [xletK] using h)
            rw [hbl] at hreg
            obtain ⟨hW0, hR, _⟩ := hreg
            simp only [Ent.rows, Ent.n, Ent.E] at hR hW0 hW hc1 ⊢
            obtain ⟨vs, r1, r2, r3, r4, r5⟩ := RR_vals hR
            have hnbj : ∀ b ∈ (ρ j).2 ++ nb', ∃ i e, kg K i = some e ∧ kg (K1.set j none) i = none ∧ b ∈ fp ρ i := fun b hb => by
              rcases List.mem_append.1 hb with hb | hb
              · exact ⟨j, _, hjK, hkj, by simp [fp, hb]⟩
              · obtain ⟨i, e, h1, h2, h3⟩ := g9 b hb
                refine ⟨i, e, h1, ?_, h3⟩
                cases h4 : kg (K1.set j none) i with
                | none => rfl
                | some e' => have := (hk1 i e' h4).2; rw [h2] at this; cases this
            have hfpn := hS.sees.nd j _ hjK
            have hnd : (bl :: ((ρ j).2 ++ nb')).Nodup := by
              have : (fp ρ j ++ nb').Nodup := by
                rw [List.nodup_append]
                exact ⟨hfpn, g10, fun x hx y hy hxy => by subst hxy; exact g11 j _ hj x hx hy⟩
              simpa [fp, hbl] using this
            by_cases hroom : rows.length + rows'.length ≤ cap
            · have hfull : cap * n' ≥ (rows.length + rows'.length) * n' := Nat.mul_le_mul_right n' hroom
              obtain ⟨w', hr, hP⟩ := storeCells_run (P := P) (b := bl) (off := 0 + rows.length * n') us 0 hW (by rw [Nat.add_mul] at hfull; omega) g5
              obtain ⟨hc1', hc2'⟩ := cells_put hP
              simp only [Nat.zero_add, Nat.add_zero] at hc1' hc2'
              have hjO : OO K ρ Y bl := .inr ⟨j, _, hjK, fp_hd hbl⟩
              have same : Same (OO K ρ Y) EN w (fun x => OO K ρ Y x ∨ x = bl) EN w' :=
                ⟨Nat.le_of_eq hP.size.symm, fun b hb _ => hP.block b (fun h => hb (h ▸ hjO)), fun b hb _ h => by rcases h with h | h; exact hb h; exact hb (h ▸ hjO), Nat.le_refl _, fun _ _ _ h => h, fun _ _ _ _ _ _ _ h => hP.whole h⟩
              have hne : ∀ b ∈ (ρ j).2 ++ nb', w'.heap[b]? = w.heap[b]? := fun b hb => hP.block b (fun h => by
                subst h; rw [List.nodup_cons] at hnd; exact hnd.1 hb)
              have hR1 := RR_mono' same (fun i hi => by rw [Nat.zero_add]; exact hc1' i (.inl hi)) (fun b hb => hne b (by simp [hb])) hR
              have hR2 : RR w' (fun x => OO K ρ Y x ∨ x = bl) EN n' bl (0 + rows.length * n') rows' nb' :=
                RR_mk g6 (vs := us) (fun i hi => by rw [Nat.zero_add]; exact hc2' i hi) g5 (XRs.mono _ same _ _ (fun b hb => hne b (by simp [hb])) g3)
              obtain ⟨ρ', s1, s2, s3⟩ := hS.add (K1 := K1.set j none) hl1 (fun i e hi => g8 i e (hk1 i e hi).2) (e := .lst n' (rows ++ rows')) (b := bl) (nb := (ρ j).2 ++ nb') (w' := w') (Nat.le_of_eq hP.size.symm)
                (fun x hx _ => hP.block x hx) (fun x m h => hP.whole h) (.inr ⟨j, _, hjK, hkj, fp_hd hbl⟩) hnbj hnd ((hP.whole hW).le (by simpa [Ent.rows, Ent.n] using hfull)) (by simpa [Ent.rows, Ent.n, Ent.E] using RR_append hR1 hR2) (fun h => by cases h) hP.os hP.tape hP.output
              refine ⟨_, w', append_fits (w' := w') hT hTx hu hux hdx hz g2 g1 hroom (fun b o hbo => ?_) (fun h => by cases h) (fun a ha => by injection ha with ha; subst ha; rfl), _, _, ρ', s1, ?_, h⟩
              · injection hbo with hbo; injection hbo with e1 e2; subst e1 e2; exact hr
              · simp only [XR, true_and]
                refine ⟨by rw [s3]; omega, fun m' len' hE => (by rw [s2] at hE; cases hE), fun bl m' len' hE => ?_⟩
                rw [s2] at hE
                injection hE with hE; injection hE with e1 hE; injection hE with e2 e3; injection e1 with e1
                subst e1 e2 e3
                exact ⟨cap, by simp [Ent.rows], by simpa [Ent.rows] using hroom, hP.whole hW⟩
            · obtain ⟨w1, nc, q1, q2, q3, q4, q5, q6⟩ := append_grow (w := w) (ty := ty) hT hTx hu hux hdx hz hb' hzv g2 g1 (base := some ⟨bl, 0, none⟩) (len := rows.length) (cap := cap) (old := vs) (fun w' hw => by
                  simp only [Builtin.firstCells]
                  exact loadCells_run (w := w') r1 (fun i hi => (cell_same (w := w) (w' := w') (by rw [hw])).trans (r2 i (by omega)))) (by omega) hfit
              obtain ⟨ρ', s1, s2⟩ := grow_ok hS (K1 := K1.set j none) (m := n') (rows := rows ++ rows') (nb := (ρ j).2 ++ nb') (vs := vs ++ us) (rest := (Builtin.zeroCells zv.cells (nc - (rows.length + rows'.length))).toList) (el := e) (cap := nc) q1 q2 q3 q4 hl1 (fun i e hi => g8 i e (hk1 i e hi).2)
                (by simpa using XRs_append r3 g3) (by simp [r1, g4, Nat.add_mul]) (fun v hv => by rcases List.mem_append.1 hv with hv | hv; exact r4 v hv; exact g5 v hv) (fun r hr => by rcases List.mem_append.1 hr with hr | hr; exact r5 r hr; exact g6 r hr) hnbj (List.nodup_cons.1 hnd).2 (by simpa using q5) (by simp [hzl0])
              have ec : (vs ++ us ++ (Builtin.zeroCells zv.cells (nc - (rows.length + rows'.length))).toList).toArray = vs.toArray ++ us.toArray ++ Builtin.zeroCells zv.cells (nc - (rows.length + rows'.length)) := by
                apply Array.ext'; simp
              rw [ec] at s1 s2
              refine ⟨_, _, q6, _, _, ρ', s1, ?_, h⟩
              simpa using s2
          · exact h.elim
        · exact h.elim
      · simp only [XR] at hs
        obtain ⟨⟨base, rfl⟩, _⟩ := hs
        obtain ⟨hfit, h⟩ := h
        exact nilcase (K1 := K1) g7 g8 g1 g2 g3 g4 g5 g6 g9 g10 base hfit h
      · exact h.elim
    · exact h.elim
  · exact h.elim
theorem rep_flat (z : List AV) : ∀ l, ∀ r ∈ List.replicate l z, r.length = z.length
  | l, r, h => by rw [List.eq_of_mem_replicate h]
theorem xmake_ok [Wd] (hS : Sim n Y w0 F0 ρ f K a w) {l c : AV} {k : AV → KS → Prop} {lk} {vl vc : Value} {t : TypeId} {b : Option Nat} (hb : ∀ e m z, tse P t = some (e, m, z) → b = tb P e)
    {ns : List Nat} (h : xmake ns K (tse P t) b l c k lk) (hl : XR w (OO K ρ Y) (EK K ρ) l vl []) (hc : XR w (OO K ρ Y) (EK K ρ) c vc []) : ∃ y w', (Instr.makeSlice t vl vc).run P w = .ok y w' ∧ Out n Y w0 F0 f a k y w' := by
  unfold xmake at h
  split at h
  · rename_i e m z b' l c ht
    split at h
    · rename_i hlc
      subst hlc
      obtain ⟨⟨h0, h1⟩, hk⟩ := h
      obtain ⟨hu, hz, hzc, hzl, hm⟩ := tse_at ht
      have hby := hb e m z ht
      obtain ⟨inf, hi1, hi2⟩ := tb_at hby.symm
      simp only [XR] at hl hc
      obtain ⟨rfl, _⟩ := hl
      obtain ⟨rfl, _⟩ := hc
      obtain ⟨zv, hzv, rfl, hone⟩ := tzc_at hzc
      have hzs : zv.cells.size = m := by simpa using hzl
      have hlb : l * 1 ≤ l * ((b' : Int) + 1) := Int.mul_le_mul_of_nonneg_left (by omega) h0
      have hw : IntKind.i64.wrap l = l := by rw [IntKind.wrap_i64]; omega
      obtain ⟨len, rfl⟩ : ∃ len : Nat, l = len := ⟨l.toNat, by omega⟩
      rw [show ((len : Int)).toNat = len from Int.toNat_natCast len] at hk
      have hX0 : XRs w (OO K ρ Y) EN (List.replicate len (nz ns (zv.cells.toList.map cv))).flatten ((Array.range (len * m)).map (fun i => zv.cells[i % zv.cells.size]!)).toList [] := by
        rw [← hzs, zeros_ok (by omega)]
        exact XRs_rep (XRs_nz (cvs_ok _)) len
      have hul := XRs_length hX0
      have hsz : ((Array.range (len * m)).map (fun i => zv.cells[i % zv.cells.size]!)).size = len * m := by simp
      obtain ⟨ρ', s1, s2, s3⟩ := hS.push (K1 := K) rfl (fun _ _ h => h) (e := .lst m (List.replicate len (nz ns (zv.cells.toList.map cv)))) (nb := []) (c := (Array.range (len * m)).map (fun i => zv.cells[i % zv.cells.size]!)) (el := e) (vs := ((Array.range (len * m)).map (fun i => zv.cells[i % zv.cells.size]!)).toList)
        (fun r hr => by rw [rep_flat _ _ r hr, nz_length]; exact hzl) (by simpa only [Ent.rows, Ent.E] using hX0) (fun i hi => by rw [Array.getElem?_toList]) (fun v hv => by
          rw [← hzs, zeros_ok (by omega)] at hv
          obtain ⟨r, hr, hv⟩ := List.mem_flatten.1 hv
          rw [List.eq_of_mem_replicate hr] at hv
          exact hone v hv) (by simp [Ent.rows, Ent.n]) (by simp) (by simp) (fun h => by cases h)
      refine ⟨.slice (some ⟨w.heap.size, 0, none⟩) len len, _, ?_, _, _, ρ', s1, sl_new s1 (by rw [kg_push]; simp) s2 s3 (by simp [Ent.rows]) (by simp [Ent.rows, Ent.n]), hk⟩
      have hi2' : inf.bytes = b' + 1 := hi2
      have e1 : ((len * (b' + 1) : Nat) : Int) = (len : Int) * ((b' : Int) + 1) := by simp
      have e2 : (((b' + 1 : Nat)) : Int) * (len : Int) = (len : Int) * ((b' : Int) + 1) := by rw [Int.mul_comm]; simp
      have hprod : len * (b' + 1) ≤ 140737488355328 := by omega
      have q1 : ¬ ((len : Int) < 0) := by omega
      have hfit : ¬ (2 ^ 47 < len * inf.bytes) := by rw [hi2']; omega
      have hbig : ¬ ((281474976710656 : Int) < (inf.bytes : Int) * (len : Int)) := by rw [hi2', e2]; omega
      unfold Instr.makeSlice
      by_cases h00 : len * m = 0
      · have e0 : ∀ g : Nat → Value, (Array.range (len * m)).map g = #[] := fun g => by rw [h00]; exact Array.eq_empty_of_size_eq_zero (by simp)
        rw [e0]
        simp [run_under hu, asInt, asIntOf, hw, typeInfo, hi1, q1, hbig, askRoom, roomBytes, hfit, run_sizeOf hz, newRow_run, h00]
        refine congrArg (fun c => wnew w c e) (Array.eq_empty_of_size_eq_zero ?_)
        simp
      · simp [run_under hu, asInt, asIntOf, hw, typeInfo, hi1, q1, hbig, askRoom, roomBytes, hfit, run_sizeOf hz, run_zero hzv, newRow_run, h00]
    · exact h.elim
  · exact h.elim
end
end Go.Proofs.Ytcpelionmmnogaa.Am
