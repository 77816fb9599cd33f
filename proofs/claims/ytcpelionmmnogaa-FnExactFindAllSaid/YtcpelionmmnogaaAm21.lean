/- An abstract machine for the walks: a callee that writes some of one's regions, and leaves the others. No condition. -/
import Derived.Test.YtcpelionmmnogaaAm20
namespace Go.Proofs.Ytcpelionmmnogaa.Am
open Go
set_option linter.unusedVariables false
set_option linter.unusedSimpArgs false

/-! ### some of the regions -/
def ixOf : List Nat → Nat → Option Nat
  | [], _ => none
  | x :: l, j => cond (Nat.beq x j) (some 0) ((ixOf l j).map (· + 1))
/-- Regions put back. -/
def puts : KS → List Nat → KS → KS
  | K, j :: js, e :: es => puts (K.set j e) js es
  | K, _, _ => K
mutual
/-- The regions of an argument. -/
def refA : AV → List Nat
  | .sl j => [j]
  | .agg cs => refAs cs
  | _ => []
def refAs : List AV → List Nat
  | [] => []
  | c :: cs => refA c ++ refAs cs
end
mutual
/-- An argument, its regions numbered by their places in js. -/
def subA (js : List Nat) : AV → Option AV
  | .sl j => (ixOf js j).map .sl
  | .agg cs => (subAs js cs).map .agg
  | .i k n => some (.i k n)
  | .b x => some (.b x)
  | .s x => some (.s x)
  | .nil => some .nil
  | .imm n rows => some (.imm n rows)
  | _ => none
def subAs (js : List Nat) : List AV → Option (List AV)
  | [] => some []
  | c :: cs => (subA js c).bind fun c' => (subAs js cs).map (c' :: ·)
end
/-- A result that says nothing of memory. -/
def AV.flat : AV → Bool
  | .b _ | .i _ _ | .s _ | .tup [] => true
  | _ => false
def isLst : Option Ent → Bool
  | some (.lst _ _) => true
  | _ => false
theorem XR_flat {w w' : World} {O O' : Nat → Prop} {E E' : EI} {r : AV} {v : Value} (hr : r.flat = true) (h : XR w O E r v []) : XR w' O' E' r v [] := by
  unfold AV.flat at hr
  split at hr
  · simpa only [XR] using h
  · simpa only [XR] using h
  · simpa only [XR] using h
  · simpa only [XR, XRs] using h
  · cases hr
theorem ixOf_cons (x : Nat) (l : List Nat) (j : Nat) : ixOf (x :: l) j = cond (Nat.beq x j) (some 0) ((ixOf l j).map (· + 1)) := rfl
theorem ixOf_at : ∀ {js : List Nat} {j i : Nat}, ixOf js j = some i → js[i]? = some j
  | [], _, _, h => by cases h
  | x :: l, j, i, h => by
    unfold ixOf at h
    cases hx : Nat.beq x j with
    | true =>
      rw [hx] at h
      injection h with h
      subst h
      rw [Nat.eq_of_beq_eq_true hx]; rfl
    | false =>
      rw [hx] at h
      obtain ⟨i', h1, rfl⟩ := Option.map_eq_some_iff.1 h
      simpa using ixOf_at h1
theorem ixOf_mem : ∀ {js : List Nat} {j : Nat}, j ∈ js → ∃ i, ixOf js j = some i
  | [], _, h => by simp at h
  | x :: l, j, h => by
    unfold ixOf
    cases hx : Nat.beq x j with
    | true => exact ⟨0, rfl⟩
    | false =>
      have : j ∈ l := by
        rcases List.mem_cons.1 h with h | h
        · subst h; rw [Nat.beq_refl] at hx; cases hx
        · exact h
      obtain ⟨i, hi⟩ := ixOf_mem this
      exact ⟨i + 1, by simp [hi]⟩
theorem ixOf_not : ∀ {js : List Nat} {j : Nat}, j ∉ js → ixOf js j = none
  | [], _, _ => rfl
  | x :: l, j, h => by
    unfold ixOf
    cases hx : Nat.beq x j with
    | true => exact absurd (by rw [Nat.eq_of_beq_eq_true hx]; simp) h
    | false => simp [ixOf_not (fun h' => h (List.mem_cons_of_mem _ h'))]
theorem ixOf_inj {js : List Nat} {j k i : Nat} (h1 : ixOf js j = some i) (h2 : ixOf js k = some i) : j = k := by
  have := ixOf_at h1; rw [ixOf_at h2] at this; injection this with this; exact this.symm
theorem ixOf_nd : ∀ {js : List Nat} {i j : Nat}, js.Nodup → js[i]? = some j → ixOf js j = some i
  | [], _, _, _, h => by simp at h
  | x :: l, i, j, hn, h => by
    obtain ⟨h1, h2⟩ := List.nodup_cons.1 hn
    unfold ixOf
    cases i with
    | zero =>
      simp at h; subst h
      rw [Nat.beq_refl]; rfl
    | succ i =>
      simp at h
      have hne : Nat.beq x j = false := by
        cases hx : Nat.beq x j with
        | false => rfl
        | true => rw [Nat.eq_of_beq_eq_true hx] at h1; exact absurd (List.mem_of_getElem? h) h1
      rw [hne, ixOf_nd h2 h]; rfl
theorem puts_length : ∀ (js : List Nat) (es : KS) (K : KS), (puts K js es).length = K.length
  | [], es, K => by unfold puts; cases es <;> rfl
  | _ :: _, [], _ => by simp [puts]
  | j :: js, e :: es, K => by simp [puts, puts_length js es]
theorem kg_puts : ∀ (js : List Nat) (es : KS) (K : KS) (j : Nat), js.Nodup → (∀ j ∈ js, j < K.length) → js.length ≤ es.length →
    kg (puts K js es) j = match ixOf js j with | some i => kg es i | none => kg K j
  | [], es, K, j, _, _, _ => by simp [puts, ixOf]
  | x :: js, [], K, j, _, _, h => by simp at h
  | x :: js, e :: es, K, j, hn, hl, hle => by
    obtain ⟨h1, h2⟩ := List.nodup_cons.1 hn
    unfold puts
    rw [kg_puts js es (K.set x e) j h2 (fun k hk => by rw [List.length_set]; exact hl k (List.mem_cons_of_mem _ hk)) (by simpa using hle)]
    rw [ixOf_cons]
    cases hx : Nat.beq x j with
    | true =>
      have := Nat.eq_of_beq_eq_true hx
      subst this
      rw [ixOf_not h1]
      simp only [cond_true]
      rw [kg_set _ _ _ _ (hl x (by simp)), if_pos rfl]
      simp [kg]
    | false =>
      simp only [cond_false]
      cases hi : ixOf js j with
      | some i => simp [kg]
      | none =>
        simp only [Option.map_none]
        rw [kg_set _ _ _ _ (hl x (by simp)), if_neg (fun h => by subst h; rw [Nat.beq_refl] at hx; cases hx)]

section
variable {P : Program} {n : NE} {Y : Nat → Prop} {w0 : World} {F0 : Nat → Prop} {ρ : RHO} {f : Fr} {K : KS} {a : Act} {w : World}
def subK (K : KS) (js : List Nat) : KS := js.map (kg K)
def subρ (ρ : RHO) (js : List Nat) : RHO := fun i => ρ (js.getD i 0)
def subY (K : KS) (ρ : RHO) (js : List Nat) (Y : Nat → Prop) : Nat → Prop := fun b => Y b ∨ ∃ j e, kg K j = some e ∧ j ∉ js ∧ b ∈ fp ρ j
theorem kg_subK {js : List Nat} {i : Nat} {e : Ent} (h : kg (subK K js) i = some e) : ∃ j, js[i]? = some j ∧ js.getD i 0 = j ∧ kg K j = some e := by
  unfold kg subK at h
  rw [List.getD_eq_getElem?_getD, List.getElem?_map] at h
  cases hj : js[i]? with
  | none => rw [hj] at h; cases h
  | some j => rw [hj] at h; exact ⟨j, rfl, by rw [List.getD_eq_getElem?_getD, hj]; rfl, h⟩
theorem kg_subK' {js : List Nat} {i j : Nat} (h : js[i]? = some j) : kg (subK K js) i = kg K j := by
  unfold kg subK
  rw [List.getD_eq_getElem?_getD, List.getElem?_map, h]; rfl
theorem subρ_at {js : List Nat} {i j : Nat} (h : js[i]? = some j) : subρ ρ js i = ρ j := by
  unfold subρ; rw [List.getD_eq_getElem?_getD, h]; rfl
theorem fp_sub {js : List Nat} {i j : Nat} (h : js[i]? = some j) : fp (subρ ρ js) i = fp ρ j := by
  unfold fp; rw [subρ_at h]
theorem OO_sub {js : List Nat} (b : Nat) : OO (subK K js) (subρ ρ js) (subY K ρ js Y) b ↔ OO K ρ Y b := by
  constructor
  · rintro ((h | ⟨j, e, h1, _, h2⟩) | ⟨i, e, h1, h2⟩)
    · exact .inl h
    · exact .inr ⟨j, e, h1, h2⟩
    · obtain ⟨j, q1, _, q2⟩ := kg_subK h1
      exact .inr ⟨j, e, q2, by rw [← fp_sub q1]; exact h2⟩
  · rintro (h | ⟨j, e, h1, h2⟩)
    · exact .inl (.inl h)
    · by_cases hj : j ∈ js
      · obtain ⟨i, hi⟩ := ixOf_mem hj
        have := ixOf_at hi
        exact .inr ⟨i, e, by rw [kg_subK' this]; exact h1, by rw [fp_sub this]; exact h2⟩
      · exact .inl (.inr ⟨j, e, h1, hj, h2⟩)
mutual
theorem subA_ok {js : List Nat} : ∀ (c : AV) {c' : AV} {v : Value}, subA js c = some c' → XR w (OO K ρ Y) (EK K ρ) c v [] →
    XR w (OO (subK K js) (subρ ρ js) (subY K ρ js Y)) (EK (subK K js) (subρ ρ js)) c' v []
  | .sl j, c', v, h, hx => by
    unfold subA at h
    obtain ⟨i, h1, rfl⟩ := Option.map_eq_some_iff.1 h
    have hi := ixOf_at h1
    simp only [XR] at hx ⊢
    obtain ⟨_, hlt, hnone, hsome⟩ := hx
    have hof : (EK (subK K js) (subρ ρ js)).of i = (EK K ρ).of j := by
      simp only [EK, kg_subK' hi, subρ_at hi]
    refine ⟨trivial, ?_, fun m len he => hnone m len (by rw [← hof]; exact he), fun bl m len he => hsome bl m len (by rw [← hof]; exact he)⟩
    simp only [EK, subK, List.length_map]
    rcases Nat.lt_or_ge i js.length with h' | h'
    · exact h'
    · rw [List.getElem?_eq_none h'] at hi; cases hi
  | .agg cs, c', v, h, hx => by
    unfold subA at h
    obtain ⟨cs', h1, rfl⟩ := Option.map_eq_some_iff.1 h
    simp only [XR] at hx ⊢
    obtain ⟨vs, h2, h3⟩ := hx
    exact ⟨vs, h2, subAs_ok cs h1 h3⟩
  | .i _ _, c', v, h, hx => by unfold subA at h; injection h with h; subst h; simpa only [XR] using hx
  | .b _, c', v, h, hx => by unfold subA at h; injection h with h; subst h; simpa only [XR] using hx
  | .s _, c', v, h, hx => by unfold subA at h; injection h with h; subst h; simpa only [XR] using hx
  | .nil, c', v, h, hx => by unfold subA at h; injection h with h; subst h; simpa only [XR] using hx
  | .imm m rows, c', v, h, hx => by
    unfold subA at h
    injection h with h
    subst h
    simp only [XR] at hx ⊢
    obtain ⟨h0, ad, cap, h1, h2, h3⟩ := hx
    refine ⟨h0, ad, cap, h1, h2, h3.imp id fun ⟨bl, off, h3, h4, hl, h5⟩ => ⟨bl, off, h3, fun h => h4 ((OO_sub bl).1 h), hl, ?_⟩⟩
    exact RR.mono rows (⟨Nat.le_refl _, fun _ _ _ => rfl, fun b hb _ h => hb ((OO_sub b).1 h), Nat.le_refl _, fun _ _ _ h => h, fun _ _ _ _ _ _ _ h => h⟩ : Same (OO K ρ Y) EN w _ EN w) bl off [] rfl (by simp) h5
  | .u, c', v, h, hx => by unfold subA at h; cases h
  | .own _ _, c', v, h, hx => by unfold subA at h; cases h
  | .ptr _ _ _, c', v, h, hx => by unfold subA at h; cases h
  | .iptr _ _ _ _, c', v, h, hx => by unfold subA at h; cases h
  | .tup _, c', v, h, hx => by unfold subA at h; cases h
  | .clo _ _, c', v, h, hx => by unfold subA at h; cases h
theorem subAs_ok {js : List Nat} : ∀ (cs : List AV) {cs' : List AV} {vs : List Value}, subAs js cs = some cs' → XRs w (OO K ρ Y) (EK K ρ) cs vs [] →
    XRs w (OO (subK K js) (subρ ρ js) (subY K ρ js Y)) (EK (subK K js) (subρ ρ js)) cs' vs []
  | [], cs', vs, h, hx => by unfold subAs at h; injection h with h; subst h; simpa only [XRs] using hx
  | c :: cs, cs', vs, h, hx => by
    unfold subAs at h
    obtain ⟨c', h1, h2⟩ := Option.bind_eq_some_iff.1 h
    obtain ⟨cs'', h3, rfl⟩ := Option.map_eq_some_iff.1 h2
    simp only [XRs] at hx ⊢
    obtain ⟨v, vs', n1, n2, rfl, hn, hx1, hx2⟩ := hx
    obtain ⟨rfl, rfl⟩ := List.append_eq_nil_iff.1 hn.symm
    exact ⟨v, vs', [], [], rfl, rfl, subA_ok c h1 hx1, subAs_ok cs h3 hx2⟩
end
/-- A call that is given the regions js, and leaves lists in their places. -/
theorem Sim.callA [Wd] (hS : Sim n Y w0 F0 ρ f K a w) {js : List Nat} (hnd : js.Nodup) (hls : ∀ j ∈ js, isLst (kg K j) = true) {g : FuncId} {cs cs' : List AV} {xs : List Value} {r : AV} {es : KS}
    (hA : AC P g (subK K js) cs' (fun v K' => (v = r ∧ K'.take js.length = es) ∧ r.flat = true ∧ (∀ e ∈ es, isLst e = true) ∧ es.length = js.length)) (hsub : subAs js cs = some cs') (hx : XRs w (OO K ρ Y) (EK K ρ) cs xs []) :
    (callFunc g xs.toArray).run P w = .ok (.enter g xs.toArray) w ∧ Calls P g xs.toArray w fun e w' => ∃ v ρ', e = .returned v ∧ (∀ O E, XR w' O E r v []) ∧ Sim n Y w0 F0 ρ' f (puts K js es) a w' ∧
      Ext (fun b => ∃ j e, j ∈ js ∧ kg K j = some e ∧ b ∈ fp ρ j) w w' ∧ (∀ j, j ∉ js → ρ' j = ρ j) ∧
      ∀ j i e', ixOf js j = some i → kg es i = some e' → ∃ e, kg K j = some e ∧ (ρ' j).1 = (ρ j).1 ∧ e'.n = e.n ∧ e'.rows.length = e.rows.length := by
  have hltK : ∀ j ∈ js, j < K.length := fun j hj => by
    have := hls j hj
    cases hk : kg K j with
    | none => rw [hk] at this; cases this
    | some e => exact kg_lt hk
  have hF : ∀ b, (∃ i e, kg (subK K js) i = some e ∧ b ∈ fp (subρ ρ js) i) ↔ ∃ j e, j ∈ js ∧ kg K j = some e ∧ b ∈ fp ρ j := fun b => by
    constructor
    · rintro ⟨i, e, h1, h2⟩
      obtain ⟨j, q1, _, q2⟩ := kg_subK h1
      exact ⟨j, e, List.mem_of_getElem? q1, q2, by rw [← fp_sub q1]; exact h2⟩
    · rintro ⟨j, e, h0, h1, h2⟩
      obtain ⟨i, hi⟩ := ixOf_mem h0
      have := ixOf_at hi
      exact ⟨i, e, by rw [kg_subK' this]; exact h1, by rw [fp_sub this]; exact h2⟩
  have hF0 : ∀ x, x < w0.heap.size → (∃ i e, kg (subK K js) i = some e ∧ x ∈ fp (subρ ρ js) i) → F0 x := fun x hx h => by
    obtain ⟨j, e, _, q1, q2⟩ := (hF x).1 h
    rcases hS.new j e x q1 q2 with q | q
    · exact q
    · omega
  have hIm : ∀ {E E' : EI} {b : Bool}, Same (OO K ρ Y) EN w (OO (subK K js) (subρ ρ js) (subY K ρ js Y)) EN w := fun {_ _ _} =>
    ⟨Nat.le_refl _, fun _ _ _ => rfl, fun b hb _ h => hb ((OO_sub b).1 h), Nat.le_refl _, fun _ _ _ h => h, fun _ _ _ _ _ _ _ h => h⟩
  have hSees : Sees w (OO (subK K js) (subρ ρ js) (subY K ρ js Y)) (subK K js) (subρ ρ js) := by
    refine ⟨fun i e hi => ?_, fun i e hi => ?_, fun i e b hi hb => ?_, fun i e k e' b hi hk hik hb hb' => ?_⟩
    · obtain ⟨j, q1, _, q2⟩ := kg_subK hi
      have hreg := hS.sees.reg j e q2
      have hl := hls j (List.mem_of_getElem? q1)
      rw [q2] at hl
      rw [subρ_at q1]
      cases e with
      | box _ => cases hl
      | lst m rows => exact Reg.mono (E := EK K ρ) (E' := EK (subK K js) (subρ ρ js)) (hIm (E := EN) (E' := EN) (b := true)) (fun _ _ => rfl) (fun _ _ => rfl) hreg
    · obtain ⟨j, q1, _, q2⟩ := kg_subK hi
      rw [fp_sub q1]; exact hS.sees.nd j e q2
    · obtain ⟨j, q1, _, q2⟩ := kg_subK hi
      rw [fp_sub q1] at hb; exact hS.sees.lt j e b q2 hb
    · obtain ⟨j, q1, _, q2⟩ := kg_subK hi
      obtain ⟨j', p1, _, p2⟩ := kg_subK hk
      rw [fp_sub q1] at hb; rw [fp_sub p1] at hb'
      refine hS.sees.dj j e j' e' b q2 p2 (fun h => ?_) hb hb'
      subst h
      have h1 := ixOf_nd hnd q1
      rw [ixOf_nd hnd p1] at h1
      injection h1 with h1
      exact hik h1.symm
  refine ⟨hA.1 _ _, (hA.2 w (subρ ρ js) (subY K ρ js Y) xs (fun w1 h1 => hS.yl.2 w1 (hS.ext.trans h1 (fun _ h => h) hF0)) (fun b hb => ?_) hSees (subAs_ok cs hsub hx)).mono
    fun e w' ⟨v, r', K', ρ2, h1, ⟨⟨h2, h2'⟩, hr, hes, hlen⟩, h3, h4, h5, h6, h7, h8⟩ => ?_⟩
  · rcases hb with hb | ⟨j, e, q1, q2, q3⟩
    · obtain ⟨q1, q2⟩ := hS.yl.1 b hb
      refine ⟨Nat.lt_of_lt_of_le q1 hS.ext.size, fun i e hi hbi => ?_⟩
      obtain ⟨j, p1, _, p2⟩ := kg_subK hi
      rw [fp_sub p1] at hbi
      rcases hS.new j e b p2 hbi with q | q
      · exact q2 q
      · omega
    · refine ⟨hS.sees.lt j e b q1 q3, fun i e' hi hbi => ?_⟩
      obtain ⟨j', p1, _, p2⟩ := kg_subK hi
      rw [fp_sub p1] at hbi
      exact hS.sees.dj j e j' e' b q1 p2 (fun h => by subst h; exact q2 (List.mem_of_getElem? p1)) q3 hbi
  subst h2
  have hil : ∀ {j i : Nat}, ixOf js j = some i → i < js.length := fun {j i} h => by
    have := ixOf_at h
    rcases Nat.lt_or_ge i js.length with h' | h'
    · exact h'
    · rw [List.getElem?_eq_none h'] at this; cases this
  have hkes : ∀ {i : Nat}, i < js.length → kg es i = kg K' i := fun {i} hi => by
    unfold kg
    rw [← h2', List.getD_eq_getElem?_getD, List.getD_eq_getElem?_getD, List.getElem?_take, if_pos hi]
  let ρ' : RHO := fun j => match ixOf js j with | some i => ρ2 i | none => ρ j
  have hρn : ∀ j, j ∉ js → ρ' j = ρ j := fun j hj => by simp only [ρ', ixOf_not hj]
  have hρi : ∀ {j i}, ixOf js j = some i → ρ' j = ρ2 i := fun {j i} h => by simp only [ρ', h]
  have hkn : ∀ j, kg (puts K js es) j = match ixOf js j with | some i => kg es i | none => kg K j := fun j => kg_puts js es K j hnd hltK (by omega)
  have hki : ∀ {j i}, ixOf js j = some i → kg (puts K js es) j = kg K' i := fun {j i} h => by rw [hkn, h]; exact hkes (hil h)
  have hko : ∀ {j}, j ∉ js → kg (puts K js es) j = kg K j := fun {j} h => by rw [hkn, ixOf_not h]
  have hshape : ∀ {j i e'}, ixOf js j = some i → kg K' i = some e' → ∃ e, kg K j = some e ∧ (ρ2 i).1 = (ρ j).1 ∧ e'.n = e.n ∧ e'.rows.length = e.rows.length := fun {j i e'} h hk => by
    have hi := ixOf_at h
    obtain ⟨e, q1, q2, q3⟩ := h8 i e' (by simp only [subK, List.length_map]; exact hil h) hk
    rw [kg_subK' hi] at q1
    rw [subρ_at hi] at q2
    exact ⟨e, q1, q2, q3⟩
  have hOs : ∀ b, OO (puts K js es) ρ' Y b → OO K' ρ2 (subY K ρ js Y) b := by
    rintro b (h | ⟨j, e, q1, q2⟩)
    · exact .inl (.inl h)
    · by_cases hj : j ∈ js
      · obtain ⟨i, hi⟩ := ixOf_mem hj
        rw [hki hi] at q1
        exact .inr ⟨i, e, q1, by unfold fp at q2 ⊢; rw [hρi hi] at q2; exact q2⟩
      · rw [hko hj] at q1
        exact .inl (.inr ⟨j, e, q1, hj, by unfold fp at q2 ⊢; rw [hρn j hj] at q2; exact q2⟩)
  have hOn : ∀ b, b < w.heap.size → OO K' ρ2 (subY K ρ js Y) b → OO K ρ Y b := by
    rintro b hb ((h | ⟨j, e, q1, _, q2⟩) | ⟨i, e, q1, q2⟩)
    · exact .inl h
    · exact .inr ⟨j, e, q1, q2⟩
    · rcases h7 i e b q1 q2 with q | q
      · obtain ⟨j, e', _, q3, q4⟩ := (hF b).1 q
        exact .inr ⟨j, e', q3, q4⟩
      · omega
  have hE6 : Ext (fun b => ∃ j e, j ∈ js ∧ kg K j = some e ∧ b ∈ fp ρ j) w w' := ⟨h6.os, h6.tape, h6.output, h6.size, fun b hb hn => h6.block b hb (fun h => hn ((hF b).1 h)), h6.who⟩
  have hsame : Same (OO K ρ Y) (EK K ρ) w (OO (puts K js es) ρ' Y) (EK (puts K js es) ρ') w' := by
    refine ⟨h6.size, fun b hb hlt => hE6.block b hlt (fun ⟨j, e, _, q1, q2⟩ => hb (.inr ⟨j, e, q1, q2⟩)), fun b hb hlt hb' => hb (hOn b hlt (hOs b hb')), by simp [EK, puts_length], fun j p hj hp => ?_, fun _ _ _ _ _ _ _ hw => h6.who _ _ hw⟩
    simp only [EK] at hp ⊢
    by_cases hjs : j ∈ js
    · obtain ⟨i, hi⟩ := ixOf_mem hjs
      rw [hki hi] at hp
      cases hk : kg K' i with
      | none => rw [hk] at hp; cases hp
      | some e' =>
        rw [hk] at hp
        obtain ⟨e0, q1, q2, q3, q4⟩ := hshape hi hk
        simp only [Option.map_some] at hp
        rw [q1, Option.map_some, ← hp, hρi hi, q2, q3, q4]
    · rw [hko hjs] at hp
      rw [← hp, hρn j hjs]
  have hS' : Sim n Y w0 F0 ρ' f (puts K js es) a w' := by
    refine ⟨hS.defers, hS.size, hsame.keep hS.keep, fun t => XR.mono (f t) hsame _ _ (by simp) (hS.fr t), ⟨fun j e hj => ?_, fun j e hj => ?_, fun j e b hj hb => ?_, ?_⟩, hS.ext.trans h6 (fun _ h => h) hF0, fun j e b hj hb => ?_, hS.yl⟩
    · by_cases hjs : j ∈ js
      · obtain ⟨i, hi⟩ := ixOf_mem hjs
        rw [hki hi] at hj
        have hl : isLst (some e) = true := by
          have hk := hkes (hil hi)
          rw [hj] at hk
          refine hes _ ?_
          unfold kg at hk
          rw [List.getD_eq_getElem?_getD, List.getElem?_eq_getElem (show i < es.length by have := hil hi; omega)] at hk
          simp only [Option.getD_some] at hk
          rw [← hk]; exact List.getElem_mem _
        have hreg := h5.reg i e hj
        rw [hρi hi]
        cases e with
        | box _ => cases hl
        | lst m rows =>
          refine Reg.mono (E := EK K' ρ2) (E' := EK (puts K js es) ρ') (w := w') (w' := w') ?_ (fun _ _ => rfl) (fun _ _ => rfl) hreg
          exact ⟨Nat.le_refl _, fun _ _ _ => rfl, fun b hb _ h => hb (hOs b h), Nat.le_refl _, fun _ _ _ h => h, fun _ _ _ _ _ _ _ h => h⟩
      · rw [hko hjs] at hj
        have hreg := hS.sees.reg j e hj
        rw [hρn j hjs]
        have hb : ∀ b ∈ fp ρ j, w'.heap[b]? = w.heap[b]? := fun b hb => hE6.block b (hS.sees.lt j e b hj hb) (fun ⟨k, e', q0, q1, q2⟩ => hS.sees.dj j e k e' b hj q1 (fun h => by subst h; exact hjs q0) hb q2)
        have hE : Same (OO K ρ Y) (e.E (EK K ρ)) w (OO (puts K js es) ρ' Y) (e.E (EK (puts K js es) ρ')) w' := by
          cases e with
          | box cs => exact hsame
          | lst n rows => exact hsame.en
        exact Reg.mono hE (fun b h => hb b (fp_hd h)) (fun b h => hb b (fp_tl h)) hreg
    · by_cases hjs : j ∈ js
      · obtain ⟨i, hi⟩ := ixOf_mem hjs
        rw [hki hi] at hj
        have := h5.nd i e hj
        unfold fp at this ⊢; rw [hρi hi]; exact this
      · rw [hko hjs] at hj
        have := hS.sees.nd j e hj
        unfold fp at this ⊢; rw [hρn j hjs]; exact this
    · by_cases hjs : j ∈ js
      · obtain ⟨i, hi⟩ := ixOf_mem hjs
        rw [hki hi] at hj
        unfold fp at hb; rw [hρi hi] at hb
        exact h5.lt i e b hj hb
      · rw [hko hjs] at hj
        unfold fp at hb; rw [hρn j hjs] at hb
        exact Nat.lt_of_lt_of_le (hS.sees.lt j e b hj hb) h6.size
    · have key : ∀ {j k e e' b}, j ∈ js → k ∉ js → kg (puts K js es) j = some e → kg (puts K js es) k = some e' → b ∈ fp ρ' j → b ∉ fp ρ' k := by
        intro j k e e' b hj hk h1 h2 hb hb'
        obtain ⟨i, hi⟩ := ixOf_mem hj
        rw [hki hi] at h1
        rw [hko hk] at h2
        unfold fp at hb hb'; rw [hρi hi] at hb; rw [hρn k hk] at hb'
        rcases h7 i e b h1 hb with q | q
        · obtain ⟨j', e1, q0, q1, q2⟩ := (hF b).1 q
          exact hS.sees.dj j' e1 k e' b q1 h2 (fun h => by subst h; exact hk q0) q2 hb'
        · have := hS.sees.lt k e' b h2 hb'
          omega
      intro j e k e' b hj hk hjk hb hb'
      by_cases hjs : j ∈ js
      · by_cases hks : k ∈ js
        · obtain ⟨i, hi⟩ := ixOf_mem hjs
          obtain ⟨i', hi'⟩ := ixOf_mem hks
          rw [hki hi] at hj; rw [hki hi'] at hk
          unfold fp at hb hb'; rw [hρi hi] at hb; rw [hρi hi'] at hb'
          exact h5.dj i e i' e' b hj hk (fun h => by subst h; exact hjk (ixOf_inj hi hi')) hb hb'
        · exact key hjs hks hj hk hb hb'
      · by_cases hks : k ∈ js
        · exact key hks hjs hk hj hb' hb
        · rw [hko hjs] at hj; rw [hko hks] at hk
          unfold fp at hb hb'; rw [hρn j hjs] at hb; rw [hρn k hks] at hb'
          exact hS.sees.dj j e k e' b hj hk hjk hb hb'
    · by_cases hjs : j ∈ js
      · obtain ⟨i, hi⟩ := ixOf_mem hjs
        rw [hki hi] at hj
        unfold fp at hb; rw [hρi hi] at hb
        rcases h7 i e b hj hb with q | q
        · obtain ⟨j', e1, _, q1, q2⟩ := (hF b).1 q
          exact hS.new j' e1 b q1 q2
        · exact .inr (Nat.le_trans hS.ext.size q)
      · rw [hko hjs] at hj
        unfold fp at hb; rw [hρn j hjs] at hb
        exact hS.new j e b hj hb
  refine ⟨v, ρ', h1, fun O E => XR_flat hr h4, hS', hE6, hρn, fun j i e' hi hk => ?_⟩
  rw [hkes (hil hi)] at hk
  obtain ⟨e, q1, q2, q3⟩ := hshape hi hk
  exact ⟨e, q1, by rw [hρi hi]; exact q2, q3⟩
end
end Go.Proofs.Ytcpelionmmnogaa.Am
