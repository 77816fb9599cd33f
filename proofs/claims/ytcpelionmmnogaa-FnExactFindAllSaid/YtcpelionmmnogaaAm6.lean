/- An abstract machine for the walks: calls are right. No condition. -/
import Derived.Test.YtcpelionmmnogaaAm5
namespace Go.Proofs.Ytcpelionmmnogaa.Am
open Go
set_option linter.unusedVariables false
set_option linter.unusedSimpArgs false
mutual
theorem lendRows_length : ∀ (rs : List (List AV)), (lendRows rs).length = rs.length
  | [] => rfl
  | r :: rs => by simp [lendRows, lendRows_length rs]
theorem lendRow_length : ∀ (cs : List AV), (lendRow cs).length = cs.length
  | [] => rfl
  | c :: cs => by simp [lendRow, lendRow_length cs]
end
section
variable {P : Program} {n : NE} {Y : Nat → Prop} {w0 : World} {F0 : Nat → Prop} {ρ : RHO} {f : Fr} {K : KS} {a : Act} {w : World}

abbrev FF : Nat → Prop := fun _ => False
abbrev TT : Nat → Prop := fun _ => True

theorem weakF {O : Nat → Prop} {E : EI} (w : World) : Same O E w FF E w :=
  ⟨Nat.le_refl _, fun _ _ _ => rfl, fun _ _ _ h => h, Nat.le_refl _, fun _ _ _ h => h, fun _ _ _ _ _ _ _ h => h⟩

mutual
theorem lendc_ok {O : Nat → Prop} : ∀ (c : AV) {v : Value} {nb : List Nat}, XR w O EN c v nb → XR w FF EN (lendc c) v []
  | .own n rows, v, nb, h => by
    simp only [XR] at h
    simp only [lendc, XR, true_and]
    have hl : (lendRows rows).length = rows.length := lendRows_length rows
    rcases h with ⟨rfl, ⟨q, rfl⟩, _⟩ | ⟨bl, n', cap, rfl, h1, h2, h3, h4⟩
    · exact ⟨q, 0, by simp [lendRows], by simp [lendRows], .inl (by simp [lendRows])⟩
    refine ⟨_, cap, by rw [hl]; exact h1, by omega, .inr ⟨bl, 0, rfl, id, h3.lt, lendRows_ok rows h4⟩⟩
  | .u, v, nb, h => by simp [lendc, XR]
  | .b _, v, nb, h => by simp only [XR] at h; simp [lendc, XR, h.1]
  | .i _ _, v, nb, h => by simp only [XR] at h; simp [lendc, XR, h.1]
  | .s _, v, nb, h => by simp only [XR] at h; simp [lendc, XR, h.1]
  | .nil, v, nb, h => by simp only [XR] at h; simp only [lendc, XR]; exact ⟨h.1, trivial⟩
  | .imm _ _, v, nb, h => by
    have := XR.mono _ (weakF (O := O) (E := EN) w) v nb (fun _ _ => rfl) h
    simp only [XR] at h; obtain ⟨rfl, _⟩ := h; exact this
  | .iptr _ _ _ _, v, nb, h => by
    have := XR.mono _ (weakF (O := O) (E := EN) w) v nb (fun _ _ => rfl) h
    simp only [XR] at h; obtain ⟨rfl, _⟩ := h; exact this
  | .sl _, v, nb, h => by simp only [XR] at h; exact absurd h.2.1 (by simp [EN])
  | .ptr _ _ _, v, nb, h => by simp only [XR] at h; exact absurd h.2.1 (by simp [EN])
  | .agg _, v, nb, h => by simp [lendc, XR]
  | .tup _, v, nb, h => by simp [lendc, XR]
  | .clo _ _, v, nb, h => by simp [lendc, XR]
theorem lendRow_ok {O : Nat → Prop} : ∀ (cs : List AV) {bl o : Nat} {nb : List Nat}, CR w O EN bl o cs nb → CR w FF EN bl o (lendRow cs) []
  | [], bl, o, nb, h => by simp [lendRow, CR]
  | c :: cs, bl, o, nb, h => by
    simp only [CR] at h
    obtain ⟨v, n1, n2, h1, rfl, h3, h4⟩ := h
    simp only [lendRow, CR]
    exact ⟨v, [], [], h1, rfl, lendc_ok c h3, lendRow_ok cs h4⟩
theorem lendRows_ok {O : Nat → Prop} : ∀ (rs : List (List AV)) {m bl off : Nat} {nb : List Nat}, RR w O EN m bl off rs nb → RR w FF EN m bl off (lendRows rs) []
  | [], m, bl, off, nb, h => by simp [lendRows, RR]
  | r :: rs, m, bl, off, nb, h => by
    simp only [RR] at h
    obtain ⟨n1, n2, rfl, h2, h3, h4⟩ := h
    simp only [lendRows, RR]
    exact ⟨[], [], rfl, by rw [lendRow_length]; exact h2, lendRow_ok r h3, lendRows_ok rs h4⟩
end

theorem lendS_ok (hS : Sees w (OO K ρ Y) K ρ) {j : Nat} {x : Value} (h : XR w (OO K ρ Y) (EK K ρ) (.sl j) x []) : XR w FF EN (lendS K j) x [] := by
  unfold lendS
  split
  · rename_i m rows hj
    simp only [XR] at h
    have hreg := hS.reg j _ hj
    simp only [XR, true_and]
    cases hb : (ρ j).1 with
    | none =>
      rw [hb] at hreg
      have h0 : rows = [] := hreg.1
      subst h0
      obtain ⟨q, rfl⟩ := h.2.2.1 m 0 (by simp [EK, hj, Ent.n, Ent.rows, hb])
      exact ⟨q, 0, rfl, by simp [lendRows], .inl rfl⟩
    | some b =>
      rw [hb] at hreg
      obtain ⟨cap, rfl, h1, h2⟩ := h.2.2.2 b m rows.length (by simp [EK, hj, Ent.n, Ent.rows, hb])
      obtain ⟨hW, hR, _⟩ := hreg
      exact ⟨_, cap, by rw [lendRows_length], by rw [lendRows_length]; exact h1, .inr ⟨b, 0, rfl, id, hW.lt, lendRows_ok rows hR⟩⟩
  · simp [XR]
theorem lendB_ok (hS : Sees w (OO K ρ Y) K ρ) {c : AV} {x : Value} (h : XR w (OO K ρ Y) (EK K ρ) c x []) : XR w FF EN (lendB K c) x [] := by
  unfold lendB
  split
  · exact lendS_ok hS h
  · split
    · rename_i hc
      exact XR_closed hc (XR.mono _ (weakF (O := OO K ρ Y) (E := EK K ρ) w) x [] (fun _ _ => rfl) h)
    · simp [XR]
theorem lendBs_ok (hS : Sees w (OO K ρ Y) K ρ) : ∀ {cs : List AV} {bl o : Nat}, CR w (OO K ρ Y) (EK K ρ) bl o cs [] → CR w FF EN bl o (cs.map (lendB K)) []
  | [], bl, o, h => by simp [CR]
  | c :: cs, bl, o, h => by
    simp only [CR] at h
    obtain ⟨v, n1, n2, h1, h2, h3, h4⟩ := h
    obtain ⟨rfl, rfl⟩ := List.append_eq_nil_iff.1 h2.symm
    simp only [List.map_cons, CR]
    exact ⟨v, [], [], h1, rfl, lendB_ok hS h3, lendBs_ok hS h4⟩
theorem lendP_ok (hS : Sees w (OO K ρ Y) K ρ) {j i o : Nat} {x : Value} (h : XR w (OO K ρ Y) (EK K ρ) (.ptr j i o) x []) : XR w FF EN (lendP K j i o) x [] := by
  have key : ∀ e, kg K j = some e → ∃ b, (ρ j).1 = some b ∧ x = .pointer (some ⟨b, i * e.n + o, none⟩) := by
    intro e hj
    simp only [XR] at h
    cases hb : (ρ j).1 with
    | none => exact (h.2.2.1 e.n e.rows.length (by simp [EK, hj, hb])).elim
    | some b => exact ⟨b, rfl, h.2.2.2 b e.n e.rows.length (by simp [EK, hj, hb])⟩
  unfold lendP
  split
  · rename_i m rows hj
    obtain ⟨b, hb, rfl⟩ := key _ hj
    have hreg := hS.reg j _ hj
    rw [hb] at hreg
    obtain ⟨hW, hR, _⟩ := hreg
    simp only [XR, true_and]
    exact ⟨b, 0, by simp [Ent.n], id, hW.lt, lendRows_ok rows hR⟩
  · rename_i cs hj
    obtain ⟨b, hb, rfl⟩ := key _ hj
    have hreg := hS.reg j _ hj
    rw [hb] at hreg
    obtain ⟨hW, hR, hbx⟩ := hreg
    have h0 := hbx rfl
    rw [h0] at hR
    simp only [Ent.rows, Ent.n, Ent.E, RR] at hR
    obtain ⟨n1, n2, h2, _, hC, rfl⟩ := hR
    obtain ⟨rfl, _⟩ := List.append_eq_nil_iff.1 h2.symm
    simp only [XR, true_and, RR]
    exact ⟨b, 0, by simp [Ent.n], id, hW.lt, [], [], rfl, by simp, lendBs_ok hS hC, rfl⟩
  · simp [XR]
mutual
theorem lend_ok (hS : Sees w (OO K ρ Y) K ρ) : ∀ (v : AV) {x : Value}, XR w (OO K ρ Y) (EK K ρ) v x [] → XR w FF EN (lend K v) x []
  | .sl j, x, h => by simp only [lend]; exact lendS_ok hS h
  | .u, x, h => by simp [lend, XR]
  | .b _, x, h => by simpa only [lend, XR] using h
  | .i _ _, x, h => by simpa only [lend, XR] using h
  | .s _, x, h => by simpa only [lend, XR] using h
  | .nil, x, h => by simpa only [lend, XR] using h
  | .imm n rows, x, h => by
    have := XR.mono _ (weakF (O := OO K ρ Y) (E := EK K ρ) w) x [] (fun _ _ => rfl) h
    simpa only [lend, XR] using this
  | .iptr n rows i o, x, h => by
    have := XR.mono _ (weakF (O := OO K ρ Y) (E := EK K ρ) w) x [] (fun _ _ => rfl) h
    simpa only [lend, XR] using this
  | .own n rows, x, h => by
    simp only [XR] at h
    rcases h with ⟨rfl, ⟨q, rfl⟩, _⟩ | ⟨_, _, _, h, _⟩
    · simp [lend, XR]
    · cases h
  | .ptr j i o, x, h => by simp only [lend]; exact lendP_ok hS h
  | .agg cs, x, h => by
    simp only [lend, XR] at h ⊢
    obtain ⟨vs, h1, h2⟩ := h
    exact ⟨vs, h1, lends_ok hS cs h2⟩
  | .tup cs, x, h => by
    simp only [lend, XR] at h ⊢
    obtain ⟨vs, h1, h2⟩ := h
    exact ⟨vs, h1, lends_ok hS cs h2⟩
  | .clo g cs, x, h => by
    simp only [lend, XR] at h ⊢
    obtain ⟨_, vs, h1, h2⟩ := h
    exact ⟨trivial, vs, h1, lends_ok hS cs h2⟩
theorem lends_ok (hS : Sees w (OO K ρ Y) K ρ) : ∀ (vs : List AV) {xs : List Value}, XRs w (OO K ρ Y) (EK K ρ) vs xs [] → XRs w FF EN (lends K vs) xs []
  | [], xs, h => by simpa only [lends, XRs] using h
  | v :: vs, xs, h => by
    simp only [lends, XRs] at h ⊢
    obtain ⟨x, xs', n1, n2, h1, h2, h3, h4⟩ := h
    obtain ⟨rfl, rfl⟩ := List.append_eq_nil_iff.1 h2.symm
    exact ⟨x, xs', [], [], h1, rfl, lend_ok hS v h3, lends_ok hS vs h4⟩
end

/-- Regions that are new: their blocks are those of nb. -/
def Fresh (w : World) : KS → List (Option Nat × List Nat) → List Nat → Prop
  | [], bs, nb => bs = [] ∧ nb = []
  | none :: K, bs, nb => False
  | some e :: K, bs, nb => ∃ b n1 bs' n2, bs = (b, n1) :: bs' ∧ nb = (b.toList ++ n1) ++ n2 ∧ Reg w TT EN e b n1 ∧ (∃ m rows, e = .lst m rows) ∧ Fresh w K bs' n2
theorem Fresh.append {K1 K2 : KS} : ∀ {b1 b2 : List (Option Nat × List Nat)} {n1 n2 : List Nat}, Fresh w K1 b1 n1 → Fresh w K2 b2 n2 → Fresh w (K1 ++ K2) (b1 ++ b2) (n1 ++ n2) := by
  induction K1 with
  | nil => intro b1 b2 n1 n2 h1 h2; simp only [Fresh] at h1; obtain ⟨rfl, rfl⟩ := h1; simpa using h2
  | cons x K1 ih =>
    intro b1 b2 n1 n2 h1 h2
    cases x with
    | none => exact h1.elim
    | some e =>
      simp only [Fresh] at h1
      obtain ⟨b, m1, bs', m2, rfl, rfl, h3, h4, h5⟩ := h1
      simp only [List.cons_append, Fresh]
      exact ⟨b, m1, bs' ++ b2, m2 ++ n2, rfl, by simp, h3, h4, ih h5 h2⟩
theorem Fresh.length {K1 : KS} : ∀ {b1 : List (Option Nat × List Nat)} {n1 : List Nat}, Fresh w K1 b1 n1 → b1.length = K1.length := by
  induction K1 with
  | nil => intro b1 n1 h; simp only [Fresh] at h; simp [h.1]
  | cons x K1 ih =>
    intro b1 n1 h
    cases x with
    | none => exact h.elim
    | some e => simp only [Fresh] at h; obtain ⟨b, m1, bs', m2, rfl, rfl, h3, h4, h5⟩ := h; simp [ih h5]

/-- What a view must know of new regions: the entries from m on. -/
def Knows (E : EI) (m : Nat) (K : KS) (bs : List (Option Nat × List Nat)) : Prop :=
  m + K.length ≤ E.sz ∧ ∀ i e, kg K i = some e → ∀ q, E.of (m + i) = some q → ∃ p, bs[i]? = some p ∧ q = (p.1, e.n, e.rows.length)
theorem Knows.left {E : EI} {m : Nat} {K1 K2 : KS} {b1 b2 : List (Option Nat × List Nat)} (hl : b1.length = K1.length) (h : Knows E m (K1 ++ K2) (b1 ++ b2)) : Knows E m K1 b1 := by
  refine ⟨by have := h.1; simp at this; omega, fun i e hi q hq => ?_⟩
  have hil := kg_lt hi
  obtain ⟨p, h1, h2⟩ := h.2 i e (by simpa [kg, List.getD, List.getElem?_append_left hil] using hi) q hq
  exact ⟨p, by rwa [List.getElem?_append_left (by omega)] at h1, h2⟩
theorem Knows.right {E : EI} {m : Nat} {K1 K2 : KS} {b1 b2 : List (Option Nat × List Nat)} (hl : b1.length = K1.length) (h : Knows E m (K1 ++ K2) (b1 ++ b2)) : Knows E (m + K1.length) K2 b2 := by
  refine ⟨by have := h.1; simp at this; omega, fun i e hi q hq => ?_⟩
  obtain ⟨p, h1, h2⟩ := h.2 (K1.length + i) e (by simpa [kg, List.getD, List.getElem?_append_right] using hi) q (by rw [← Nat.add_assoc]; exact hq)
  exact ⟨p, by rw [List.getElem?_append_right (by omega)] at h1; rwa [show K1.length + i - b1.length = i by omega] at h1, h2⟩

mutual
theorem impo_ok : ∀ (x : AV) (m : Nat) {v : Value} {nb : List Nat}, XR w TT EN x v nb →
    ∃ bs, Fresh w (impo m x).2 bs nb ∧ ∀ (O : Nat → Prop) (E : EI), Knows E m (impo m x).2 bs → XR w O E (impo m x).1 v []
  | .own k rows, m, v, nb, h => by
    simp only [XR] at h
    rcases h with ⟨rfl, ⟨q, rfl⟩, rfl⟩ | ⟨bl, n', cap, rfl, h1, h2, h3, h4⟩
    · refine ⟨[(none, [])], ?_, fun O E hE => ?_⟩
      · simp only [impo, Fresh]
        exact ⟨none, [], [], [], rfl, rfl, ⟨rfl, rfl⟩, ⟨_, _, rfl⟩, rfl, rfl⟩
      · simp only [impo, XR, true_and]
        refine ⟨by have := hE.1; simp [impo] at this; omega, fun _ _ _ => ⟨q, rfl⟩, fun b' k' len' he => ?_⟩
        obtain ⟨p, h5, h6⟩ := hE.2 0 (.lst k []) (by simp [impo, kg]) _ he
        simp at h5
        subst h5
        injection h6 with e1 h6; cases e1
    refine ⟨[(some bl, n')], ?_, fun O E hE => ?_⟩
    · simp only [impo, Fresh]
      exact ⟨some bl, n', [], [], rfl, by simp, ⟨h3.le (Nat.mul_le_mul_right k h2), h4, fun h => by cases h⟩, ⟨_, _, rfl⟩, rfl, rfl⟩
    · simp only [impo, XR, true_and]
      refine ⟨by have := hE.1; simp [impo] at this; omega, fun k' len' he => ?_, fun b' k' len' he => ?_⟩
      · obtain ⟨p, h5, h6⟩ := hE.2 0 (.lst k rows) (by simp [impo, kg]) _ he
        simp at h5
        subst h5
        injection h6 with e1 h6; cases e1
      obtain ⟨p, h5, h6⟩ := hE.2 0 (.lst k rows) (by simp [impo, kg]) _ he
      simp at h5
      subst h5
      simp only [Ent.n, Ent.rows] at h6
      injection h6 with e1 h6; injection h6 with e2 e3; injection e1 with e1
      subst e1 e2 e3
      exact ⟨cap, h1, h2, h3⟩
  | .agg cs, m, v, nb, h => by
    simp only [XR] at h
    obtain ⟨vs, rfl, h1⟩ := h
    obtain ⟨bs, h2, h3⟩ := impos_ok cs m h1
    refine ⟨bs, by simpa only [impo] using h2, fun O E hE => ?_⟩
    simp only [impo, XR]
    exact ⟨vs, rfl, h3 O E (by simpa only [impo] using hE)⟩
  | .tup cs, m, v, nb, h => by
    simp only [XR] at h
    obtain ⟨vs, rfl, h1⟩ := h
    obtain ⟨bs, h2, h3⟩ := impos_ok cs m h1
    refine ⟨bs, by simpa only [impo] using h2, fun O E hE => ?_⟩
    simp only [impo, XR]
    exact ⟨vs, rfl, h3 O E (by simpa only [impo] using hE)⟩
  | .u, m, v, nb, h => by simp only [XR] at h; exact ⟨[], by simp [impo, Fresh, h], fun O E _ => by simp [impo, XR]⟩
  | .b _, m, v, nb, h => by simp only [XR] at h; exact ⟨[], by simp [impo, Fresh, h], fun O E _ => by simp [impo, XR, h]⟩
  | .i _ _, m, v, nb, h => by simp only [XR] at h; exact ⟨[], by simp [impo, Fresh, h], fun O E _ => by simp [impo, XR, h]⟩
  | .s _, m, v, nb, h => by simp only [XR] at h; exact ⟨[], by simp [impo, Fresh, h], fun O E _ => by simp [impo, XR, h]⟩
  | .nil, m, v, nb, h => by simp only [XR] at h; exact ⟨[], by simp [impo, Fresh, h], fun O E _ => by simp only [impo, XR]; exact ⟨h.1, trivial⟩⟩
  | .imm k rows, m, v, nb, h => by
    simp only [XR] at h
    obtain ⟨rfl, a', cap, h1, h2, h3⟩ := h
    refine ⟨[], by simp [impo, Fresh], fun O E _ => ?_⟩
    simp only [impo, XR, true_and]
    refine ⟨a', cap, h1, h2, ?_⟩
    rcases h3 with h3 | ⟨_, _, _, h3, _⟩
    · exact .inl h3
    · exact absurd trivial h3
  | .iptr _ _ _ _, m, v, nb, h => by simp only [XR] at h; obtain ⟨_, _, _, _, h, _⟩ := h; exact absurd trivial h
  | .sl _, m, v, nb, h => by simp only [XR] at h; exact absurd h.2.1 (by simp [EN])
  | .ptr _ _ _, m, v, nb, h => by simp only [XR] at h; exact absurd h.2.1 (by simp [EN])
  | .clo g cs, m, v, nb, h => by simp only [XR] at h; obtain ⟨rfl, _⟩ := h; exact ⟨[], by simp [impo, Fresh], fun O E _ => by simp [impo, XR]⟩
theorem impos_ok : ∀ (xs : List AV) (m : Nat) {vs : List Value} {nb : List Nat}, XRs w TT EN xs vs nb →
    ∃ bs, Fresh w (impos m xs).2 bs nb ∧ ∀ (O : Nat → Prop) (E : EI), Knows E m (impos m xs).2 bs → XRs w O E (impos m xs).1 vs []
  | [], m, vs, nb, h => by
    simp only [XRs] at h
    exact ⟨[], by simp [impos, Fresh, h.2], fun O E _ => by simp [impos, XRs, h.1]⟩
  | x :: xs, m, vs, nb, h => by
    simp only [XRs] at h
    obtain ⟨v, vs', n1, n2, rfl, rfl, h3, h4⟩ := h
    obtain ⟨b1, h5, h6⟩ := impo_ok x m h3
    obtain ⟨b2, h7, h8⟩ := impos_ok xs (m + (impo m x).2.length) h4
    refine ⟨b1 ++ b2, by simp only [impos]; exact h5.append h7, fun O E hE => ?_⟩
    simp only [impos] at hE
    simp only [impos, XRs]
    exact ⟨v, vs', [], [], rfl, rfl, h6 O E (hE.left h5.length), h8 O E (hE.right h5.length)⟩
end

theorem Sim.liftM [Wd] {ρ' : RHO} {K' : KS} {w' : World} (h : Sim n Y w0 F0 ρ f K a w)
    (hs : Same (OO K ρ Y) (EK K ρ) w (OO K' ρ' Y) (EK K' ρ') w') (J : Nat → Prop)
    (hold : ∀ j e, kg K' j = some e → ¬ J j → kg K j = some e ∧ ρ' j = ρ j ∧ ∀ b ∈ fp ρ j, w'.heap[b]? = w.heap[b]?)
    (hnew : ∀ j e, kg K' j = some e → J j → Reg w' (OO K' ρ' Y) (EK K' ρ') e (ρ' j).1 (ρ' j).2 ∧ (fp ρ' j).Nodup ∧ (∀ b ∈ fp ρ' j, b < w'.heap.size ∧ w.heap.size ≤ b))
    (hdj : ∀ i e j e' b, kg K' i = some e → kg K' j = some e' → J i → J j → i ≠ j → b ∈ fp ρ' i → b ∉ fp ρ' j)
    (hext : Ext F0 w0 w') : Sim n Y w0 F0 ρ' f K' a w' := by
  refine ⟨h.defers, h.size, hs.keep h.keep, fun t => XR.mono (f t) hs _ _ (by simp) (h.fr t), ⟨?_, ?_, ?_, ?_⟩, hext, ?_, h.yl⟩
  · intro j e hj
    by_cases hJ : J j
    · exact (hnew j e hj hJ).1
    · obtain ⟨h1, h2, h3⟩ := hold j e hj hJ
      have hr := h.sees.reg j e h1
      rw [h2]
      have hE : Same (OO K ρ Y) (e.E (EK K ρ)) w (OO K' ρ' Y) (e.E (EK K' ρ')) w' := by
        cases e with
        | box cs => exact hs
        | lst n rows => exact hs.en
      exact Reg.mono hE (fun b hb => h3 b (fp_hd hb)) (fun b hb => h3 b (fp_tl hb)) hr
  · intro j e hj
    by_cases hJ : J j
    · exact (hnew j e hj hJ).2.1
    · obtain ⟨h1, h2, h3⟩ := hold j e hj hJ
      have := h.sees.nd j e h1
      unfold fp at *; rw [h2]; exact this
  · intro j e b hj hb
    by_cases hJ : J j
    · exact ((hnew j e hj hJ).2.2 b hb).1
    · obtain ⟨h1, h2, h3⟩ := hold j e hj hJ
      unfold fp at hb; rw [h2] at hb
      exact Nat.lt_of_lt_of_le (h.sees.lt j e b h1 hb) hs.size
  · have key : ∀ k e' j e, kg K' k = some e' → kg K' j = some e → ¬ J k → J j → ∀ b ∈ fp ρ' j, b ∉ fp ρ' k := by
      intro k e' j e hk hj hkJ hJ b hb hbk
      obtain ⟨h1, h2, h3⟩ := hold k e' hk hkJ
      have hbk' : b ∈ fp ρ k := by unfold fp at hbk ⊢; rw [h2] at hbk; exact hbk
      have h4 := ((hnew j e hj hJ).2.2 b hb).2
      have := h.sees.lt k e' b h1 hbk'
      omega
    intro j e k e' b hj hk hjk hb hbk
    by_cases hJ : J j
    · by_cases hJk : J k
      · exact hdj j e k e' b hj hk hJ hJk hjk hb hbk
      · exact key k e' j e hk hj hJk hJ b hb hbk
    · by_cases hJk : J k
      · exact key j e k e' hj hk hJ hJk b hbk hb
      · obtain ⟨h1, h2, _⟩ := hold j e hj hJ
        obtain ⟨h3, h4, _⟩ := hold k e' hk hJk
        unfold fp at hb hbk; rw [h2] at hb; rw [h4] at hbk
        exact h.sees.dj j e k e' b h1 h3 hjk hb hbk
  · intro j e b hj hb
    by_cases hJ : J j
    · exact .inr (Nat.le_trans h.ext.size ((hnew j e hj hJ).2.2 b hb).2)
    · obtain ⟨h1, h2, h3⟩ := hold j e hj hJ
      unfold fp at hb; rw [h2] at hb
      exact h.new j e b h1 hb

theorem kg_app (K K2 : KS) (i : Nat) : kg (K ++ K2) i = if i < K.length then kg K i else kg K2 (i - K.length) := by
  unfold kg
  by_cases h : i < K.length
  · simp [List.getD, List.getElem?_append_left h, h]
  · simp [List.getD, List.getElem?_append_right (show K.length ≤ i by omega), h]

theorem Fresh.at {K2 : KS} : ∀ {bs : List (Option Nat × List Nat)} {nb : List Nat} {i : Nat} {e : Ent}, Fresh w K2 bs nb → nb.Nodup → kg K2 i = some e →
    ∃ p, bs[i]? = some p ∧ Reg w TT EN e p.1 p.2 ∧ (∃ m rows, e = .lst m rows) ∧ (p.1.toList ++ p.2).Nodup ∧ (∀ b ∈ p.1.toList ++ p.2, b ∈ nb) := by
  induction K2 with
  | nil => intro bs nb i e h _ hi; simp [kg, List.getD] at hi
  | cons x K2 ih =>
    intro bs nb i e h hn hi
    cases x with
    | none => exact h.elim
    | some e0 =>
      simp only [Fresh] at h
      obtain ⟨b, m1, bs', m2, rfl, rfl, h3, h4, h5⟩ := h
      rw [List.nodup_append] at hn
      cases i with
      | zero =>
        simp [kg, List.getD] at hi
        subst hi
        exact ⟨(b, m1), rfl, h3, h4, hn.1, fun x hx => by simp at hx ⊢; rcases hx with hx | hx <;> simp [hx]⟩
      | succ i =>
        obtain ⟨p, h6, h7, h8, h9, h10⟩ := ih (i := i) h5 hn.2.1 (by simpa [kg, List.getD] using hi)
        exact ⟨p, by simpa using h6, h7, h8, h9, fun x hx => by have := h10 x hx; simp [this]⟩
theorem Fresh.dj {K2 : KS} : ∀ {bs : List (Option Nat × List Nat)} {nb : List Nat} {i j : Nat} {p q : Option Nat × List Nat} {e e' : Ent}, Fresh w K2 bs nb → nb.Nodup → kg K2 i = some e → kg K2 j = some e' → i ≠ j → bs[i]? = some p → bs[j]? = some q →
    ∀ b ∈ p.1.toList ++ p.2, b ∉ q.1.toList ++ q.2 := by
  induction K2 with
  | nil => intro bs nb i j p q e e' h _ hi; simp [kg, List.getD] at hi
  | cons x K2 ih =>
    intro bs nb i j p q e e' h hn hi hj hij hp hq
    cases x with
    | none => exact h.elim
    | some e0 =>
      simp only [Fresh] at h
      obtain ⟨b, m1, bs', m2, rfl, rfl, h3, h4, h5⟩ := h
      have hn' := hn
      rw [List.nodup_append] at hn'
      cases i with
      | zero =>
        cases j with
        | zero => exact absurd rfl hij
        | succ j =>
          simp at hp hq
          subst hp
          obtain ⟨p', h6, _, _, _, h10⟩ := h5.at (i := j) hn'.2.1 (by simpa [kg, List.getD] using hj)
          rw [hq] at h6; injection h6 with h6; subst h6
          intro x hx hx'
          exact hn'.2.2 x hx x (h10 x hx') rfl
      | succ i =>
        cases j with
        | zero =>
          simp at hp hq
          subst hq
          obtain ⟨p', h6, _, _, _, h10⟩ := h5.at (i := i) hn'.2.1 (by simpa [kg, List.getD] using hi)
          rw [hp] at h6; injection h6 with h6; subst h6
          intro x hx hx'
          exact hn'.2.2 x hx' x (h10 x hx) rfl
        | succ j => exact ih (i := i) (j := j) h5 hn'.2.1 (by simpa [kg, List.getD] using hi) (by simpa [kg, List.getD] using hj) (by omega) (by simpa using hp) (by simpa using hq)

/-- Behind a call that writes nothing: the result's own slices are regions. -/
theorem Sim.import [Wd] (hS : Sim n Y w0 F0 ρ f K a w) {w' : World} (hE : Ext FF w w') {x : AV} {v : Value} {nb : List Nat} (hx : XR w' TT EN x v nb) (hn : nb.Nodup) (hb : ∀ b ∈ nb, w.heap.size ≤ b ∧ b < w'.heap.size) :
    ∃ ρ', Sim n Y w0 F0 ρ' f (K ++ (impo K.length x).2) a w' ∧ XR w' (OO (K ++ (impo K.length x).2) ρ' Y) (EK (K ++ (impo K.length x).2) ρ') (impo K.length x).1 v [] := by
  obtain ⟨bs, hF, hk⟩ := impo_ok x K.length hx
  generalize hK2 : (impo K.length x).2 = K2 at hF hk ⊢
  have hbl := hF.length
  let ρ' : RHO := fun i => if i < K.length then ρ i else bs.getD (i - K.length) (none, [])
  have hat : ∀ i e, kg K2 i = some e → bs[i]? = some (ρ' (K.length + i)) ∧ ρ' (K.length + i) = bs.getD i (none, []) := fun i e hi => by
    obtain ⟨p, hp, _⟩ := hF.at hn hi
    have hni : ¬ (K.length + i < K.length) := by omega
    have : ρ' (K.length + i) = p := by simp only [ρ', hni, if_false, List.getD]; rw [show K.length + i - K.length = i by omega, hp]; rfl
    exact ⟨by rw [this]; exact hp, by simp only [ρ', hni, if_false]; rw [show K.length + i - K.length = i by omega]⟩
  have hO : ∀ b, b < w.heap.size → OO (K ++ K2) ρ' Y b → OO K ρ Y b := by
    rintro b hlt (h | ⟨i, e, hi, hb'⟩)
    · exact .inl h
    · rw [kg_app] at hi
      by_cases hik : i < K.length
      · rw [if_pos hik] at hi
        exact .inr ⟨i, e, hi, by simpa [fp, ρ', hik] using hb'⟩
      · rw [if_neg hik] at hi
        obtain ⟨p, hp, _, _, _, h10⟩ := hF.at hn hi
        have h1 := (hat _ e hi).1
        rw [show K.length + (i - K.length) = i by omega] at h1
        rw [hp] at h1; injection h1 with h1
        have h2 : b ∈ nb := h10 b (by rw [h1]; exact hb')
        have h3 := (hb b h2).1
        exact absurd hlt (by omega)
  have hsame : Same (OO K ρ Y) (EK K ρ) w (OO (K ++ K2) ρ' Y) (EK (K ++ K2) ρ') w' := by
    refine ⟨hE.size, fun b hb hlt => hE.block b hlt id, fun b hb hlt h => hb (hO b hlt h), by simp [EK], fun j p hj hp => ?_, fun _ _ _ _ _ _ _ h => h.same (hE.block _ h.lt id)⟩
    simp only [EK] at hj hp ⊢
    rw [kg_app, if_pos hj] at hp
    simpa [ρ', hj] using hp
  have hlift := hS.liftM hsame (fun j => K.length ≤ j) (fun j e hj hJ => by
      rw [kg_app, if_pos (by omega)] at hj
      exact ⟨hj, by simp [ρ', show j < K.length by omega], fun b hb => hE.block b (hS.sees.lt j e b hj hb) id⟩)
    (fun j e hj hJ => by
      have hj0 := hj
      rw [kg_app, if_neg (by omega)] at hj
      obtain ⟨p, hp, hR, ⟨m, rows, rfl⟩, hnd, h10⟩ := hF.at hn hj
      have h1 := (hat _ _ hj).1
      rw [show K.length + (j - K.length) = j by omega] at h1
      rw [hp] at h1; injection h1 with h1
      have e1 : fp ρ' j = p.1.toList ++ p.2 := by simp [fp, h1]
      rw [← h1, e1]
      refine ⟨?_, hnd, fun b hb' => ⟨(hb b (h10 b hb')).2, (hb b (h10 b hb')).1⟩⟩
      have hw : Same TT EN w' (OO (K ++ K2) ρ' Y) EN w' := ⟨Nat.le_refl _, fun _ h => absurd trivial h, fun _ h => absurd trivial h, Nat.le_refl _, fun _ _ _ h => h, fun _ _ _ _ _ _ _ h => h⟩
      exact Reg.mono hw (fun _ _ => rfl) (fun _ _ => rfl) hR)
    (fun i e j e' b hi hj hJi hJj hij hb1 hb2 => by
      rw [kg_app, if_neg (by omega)] at hi hj
      have h1 := (hat _ _ hi).1
      have h2 := (hat _ _ hj).1
      rw [show K.length + (i - K.length) = i by omega] at h1
      rw [show K.length + (j - K.length) = j by omega] at h2
      exact hF.dj hn hi hj (by omega) h1 h2 b hb1 hb2)
    (hS.ext.trans hE (fun _ h => h) (fun _ _ h => h.elim))
  refine ⟨ρ', hlift, hk _ _ ⟨by simp [EK], fun i e hi q hq => ?_⟩⟩
  simp only [EK] at hq
  rw [kg_app, if_neg (by omega), show K.length + i - K.length = i by omega, hi] at hq
  simp at hq
  exact ⟨_, (hat i e hi).1, hq.symm⟩
end
end Go.Proofs.Ytcpelionmmnogaa.Am
