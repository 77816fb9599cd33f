/- An abstract machine for the walks: what a function's code says of its calls. No condition. -/
import Derived.Test.YtcpelionmmnogaaAm10
namespace Go.Proofs.Ytcpelionmmnogaa.Am
open Go
set_option linter.unusedVariables false
set_option linter.unusedSimpArgs false

mutual
/-- Nothing of it lies in memory that is not its own. -/
def AV.clean : AV → Bool
  | .u | .b _ | .i _ _ | .s _ | .nil => true
  | .own _ rows => cleanRows rows
  | .agg cs => cleans cs
  | .tup cs => cleans cs
  | _ => false
def cleans : List AV → Bool
  | [] => true
  | c :: cs => c.clean && cleans cs
def cleanRows : List (List AV) → Bool
  | [] => true
  | r :: rs => cleans r && cleanRows rs
end
theorem cleans_all : ∀ cs : List AV, cleans cs = cs.all AV.clean
  | [] => rfl
  | c :: cs => by simp [cleans, cleans_all cs]
theorem cleanRows_all : ∀ rs : List (List AV), cleanRows rs = rs.all fun r => r.all AV.clean
  | [] => rfl
  | r :: rs => by simp [cleanRows, cleanRows_all rs, cleans_all]
mutual
theorem XR_clean {O O' : Nat → Prop} {w : World} : ∀ (a : AV) {E : EI} {v : Value} {nb : List Nat}, a.clean = true → XR w O E a v nb → XR w O' E a v nb
  | .u, E, v, nb, _, h => by simpa only [XR] using h
  | .b _, E, v, nb, _, h => by simpa only [XR] using h
  | .i _ _, E, v, nb, _, h => by simpa only [XR] using h
  | .s _, E, v, nb, _, h => by simpa only [XR] using h
  | .nil, E, v, nb, _, h => by simpa only [XR] using h
  | .own n rows, E, v, nb, hc, h => by
    simp only [XR] at h ⊢
    rcases h with h | ⟨bl, n', cap, h1, h2, h3, h4, h5⟩
    · exact .inl h
    · exact .inr ⟨bl, n', cap, h1, h2, h3, h4, RR_clean rows (by simpa only [AV.clean] using hc) h5⟩
  | .agg cs, E, v, nb, hc, h => by
    simp only [XR] at h ⊢
    obtain ⟨vs, h1, h2⟩ := h
    exact ⟨vs, h1, XRs_clean cs (by simpa only [AV.clean] using hc) h2⟩
  | .tup cs, E, v, nb, hc, h => by
    simp only [XR] at h ⊢
    obtain ⟨vs, h1, h2⟩ := h
    exact ⟨vs, h1, XRs_clean cs (by simpa only [AV.clean] using hc) h2⟩
theorem XRs_clean {O O' : Nat → Prop} {w : World} : ∀ (cs : List AV) {E : EI} {vs : List Value} {nb : List Nat}, cleans cs = true → XRs w O E cs vs nb → XRs w O' E cs vs nb
  | [], E, vs, nb, _, h => by simpa only [XRs] using h
  | c :: cs, E, vs, nb, hc, h => by
    simp only [cleans, Bool.and_eq_true] at hc
    simp only [XRs] at h ⊢
    obtain ⟨v, vs', n1, n2, h1, h2, h3, h4⟩ := h
    exact ⟨v, vs', n1, n2, h1, h2, XR_clean c hc.1 h3, XRs_clean cs hc.2 h4⟩
theorem CR_clean {O O' : Nat → Prop} {w : World} : ∀ (cs : List AV) {E : EI} {bl o : Nat} {nb : List Nat}, cleans cs = true → CR w O E bl o cs nb → CR w O' E bl o cs nb
  | [], E, bl, o, nb, _, h => by simpa only [CR] using h
  | c :: cs, E, bl, o, nb, hc, h => by
    simp only [cleans, Bool.and_eq_true] at hc
    simp only [CR] at h ⊢
    obtain ⟨v, n1, n2, h1, h2, h3, h4⟩ := h
    exact ⟨v, n1, n2, h1, h2, XR_clean c hc.1 h3, CR_clean cs hc.2 h4⟩
theorem RR_clean {O O' : Nat → Prop} {w : World} : ∀ (rs : List (List AV)) {E : EI} {m bl off : Nat} {nb : List Nat}, cleanRows rs = true → RR w O E m bl off rs nb → RR w O' E m bl off rs nb
  | [], E, m, bl, off, nb, _, h => by simpa only [RR] using h
  | r :: rs, E, m, bl, off, nb, hc, h => by
    simp only [cleanRows, Bool.and_eq_true] at hc
    simp only [RR] at h ⊢
    obtain ⟨n1, n2, h1, h2, h3, h4⟩ := h
    exact ⟨n1, n2, h1, h2, CR_clean r hc.1 h3, RR_clean rs hc.2 h4⟩
end

mutual
/-- A value that is handed out: its regions go with it. -/
def expo (K : KS) : AV → Option (KS × AV)
  | .sl j => match kg K j with
    | some (.lst n rows) => if cleanRows rows = true then some (K.set j none, .own n rows) else none
    | _ => none
  | .agg cs => (expos K cs).map fun p => (p.1, .agg p.2)
  | .tup cs => (expos K cs).map fun p => (p.1, .tup p.2)
  | .imm n rows => if rows.isEmpty = true then some (K, .imm n []) else none
  | .iptr _ _ _ _ => none
  | .ptr _ _ _ => none
  | .clo _ _ => none
  | .own _ _ => none
  | c => some (K, c)
def expos (K : KS) : List AV → Option (KS × List AV)
  | [] => some (K, [])
  | c :: cs => match expo K c with
    | some (K1, c') => (expos K1 cs).map fun p => (p.1, c' :: p.2)
    | none => none
end
def xress (f : Fr) : List ResultVar → Option (List AV)
  | [] => some []
  | .tmp t :: rs => (xress f rs).map (f t :: ·)
  | .cell _ _ :: _ => none
/-- The value that a function returns. -/
def xres (rs : List ResultVar) (f : Fr) : Option AV :=
  match rs with
  | [.tmp t] => some (f t)
  | rs => (xress f rs).map .tup
def xretP (R : AV → Prop) (rs : List ResultVar) (f : Fr) (K : KS) : Prop :=
  match xres rs f with
  | some v => match expo K v with
    | some (_, x) => R x
    | none => False
  | none => False
def xretA (R : AV → KS → Prop) (rs : List ResultVar) (f : Fr) (K : KS) : Prop :=
  match xres rs f with
  | some v => R v K
  | none => False
def xfin (k : Fr → KS → Prop) : QT
  | .normal, f, K => k f K
  | .ret, f, K => k f K
  | .exit _, _, _ => False
/-- The arguments in the frame's first slots. -/
def argsAt (args : List AV) : Fr := fun t => args.getD t .u

section
variable {P : Program} {n : NE} {Y : Nat → Prop} {w0 : World} {F0 : Nat → Prop} {ρ : RHO} {f : Fr} {K : KS} {a : Act} {w : World}

/-- A list of blocks of regions that are in K and no more in K1. -/
def Gone (ρ : RHO) (K K1 : KS) (nb : List Nat) : Prop :=
  nb.Nodup ∧ K1.length = K.length ∧ (∀ i e, kg K1 i = some e → kg K i = some e) ∧ ∀ x ∈ nb, ∃ j e, kg K j = some e ∧ kg K1 j = none ∧ x ∈ fp ρ j
theorem Gone.refl (ρ : RHO) (K : KS) : Gone ρ K K [] := ⟨by simp, rfl, fun _ _ h => h, by simp⟩
theorem Gone.append (hS : Sees w (OO K ρ Y) K ρ) {K1 K2 : KS} {n1 n2 : List Nat} (h0 : ∀ i e, kg K1 i = some e → kg K i = some e) {K0 : KS} (h00 : ∀ i e, kg K0 i = some e → kg K i = some e) (h1 : Gone ρ K0 K1 n1) (h2 : Gone ρ K1 K2 n2) : Gone ρ K0 K2 (n1 ++ n2) := by
  obtain ⟨a1, a2, a3, a4⟩ := h1
  obtain ⟨b1, b2, b3, b4⟩ := h2
  refine ⟨?_, b2.trans a2, fun i e hi => a3 i e (b3 i e hi), fun x hx => ?_⟩
  · rw [List.nodup_append]
    refine ⟨a1, b1, fun x hx y hy hxy => ?_⟩
    subst hxy
    obtain ⟨j, e, c1, c2, c3⟩ := a4 x hx
    obtain ⟨j', e', d1, d2, d3⟩ := b4 x hy
    have hjj : j ≠ j' := fun h => by subst h; rw [c2] at d1; cases d1
    exact hS.dj j e j' e' x (h00 _ _ c1) (h0 _ _ d1) hjj c3 d3
  · rcases List.mem_append.1 hx with hx | hx
    · obtain ⟨j, e, c1, c2, c3⟩ := a4 x hx
      refine ⟨j, e, c1, ?_, c3⟩
      cases h : kg K2 j with
      | none => rfl
      | some e' => have := b3 j e' h; rw [c2] at this; cases this
    · obtain ⟨j, e, c1, c2, c3⟩ := b4 x hx
      exact ⟨j, e, a3 _ _ c1, c2, c3⟩

mutual
theorem expo_ok [Wd] (hS : Sim n Y w0 F0 ρ f K a w) : ∀ (c : AV) {K0 K1 : KS} {x : AV} {v : Value}, (∀ i e, kg K0 i = some e → kg K i = some e) → expo K0 c = some (K1, x) → XR w (OO K ρ Y) (EK K ρ) c v [] →
    ∃ nb, XR w TT EN x v nb ∧ Gone ρ K0 K1 nb
  | .sl j, K0, K1, x, v, hK, h, hx => by
    simp only [expo] at h
    split at h
    · rename_i m rows hj
      split at h
      · rename_i hc
        injection h with h; injection h with e1 e2; subst e1 e2
        have hjl := kg_lt hj
        refine ⟨fp ρ j, XR_clean _ (by simpa only [AV.clean] using hc) (own_of_sl hS (hK _ _ hj) hx (E := EN)).1, hS.sees.nd j _ (hK _ _ hj), by simp, fun i e hi => ?_, fun x hx => ⟨j, _, hj, by rw [kg_set _ _ _ _ hjl]; simp, hx⟩⟩
        rw [kg_set _ _ _ _ hjl] at hi
        split at hi
        · cases hi
        · exact hi
      · cases h
    · cases h
  | .agg cs, K0, K1, x, v, hK, h, hx => by
    simp only [expo] at h
    obtain ⟨p, h1, h2⟩ := Option.map_eq_some_iff.1 h
    injection h2 with e1 e2; subst e1 e2
    simp only [XR] at hx ⊢
    obtain ⟨vs, h3, h4⟩ := hx
    obtain ⟨nb, h5, h6⟩ := expos_ok hS cs hK h1 h4
    exact ⟨nb, ⟨vs, h3, h5⟩, h6⟩
  | .tup cs, K0, K1, x, v, hK, h, hx => by
    simp only [expo] at h
    obtain ⟨p, h1, h2⟩ := Option.map_eq_some_iff.1 h
    injection h2 with e1 e2; subst e1 e2
    simp only [XR] at hx ⊢
    obtain ⟨vs, h3, h4⟩ := hx
    obtain ⟨nb, h5, h6⟩ := expos_ok hS cs hK h1 h4
    exact ⟨nb, ⟨vs, h3, h5⟩, h6⟩
  | .imm m rows, K0, K1, x, v, hK, h, hx => by
    simp only [expo] at h
    split at h
    · rename_i hr
      have hr : rows = [] := by simpa using hr
      subst hr
      injection h with h; injection h with e1 e2; subst e1 e2
      simp only [XR] at hx ⊢
      obtain ⟨_, ad, cap, h1, h2, _⟩ := hx
      exact ⟨[], ⟨rfl, ad, cap, h1, h2, .inl trivial⟩, Gone.refl _ _⟩
    · cases h
  | .iptr _ _ _ _, K0, K1, x, v, hK, h, hx => by simp [expo] at h
  | .ptr _ _ _, K0, K1, x, v, hK, h, hx => by simp [expo] at h
  | .clo _ _, K0, K1, x, v, hK, h, hx => by simp [expo] at h
  | .own _ _, K0, K1, x, v, hK, h, hx => by simp [expo] at h
  | .u, K0, K1, x, v, hK, h, hx => by simp [expo] at h; obtain ⟨rfl, rfl⟩ := h; exact ⟨[], by simp [XR], Gone.refl _ _⟩
  | .b _, K0, K1, x, v, hK, h, hx => by simp [expo] at h; obtain ⟨rfl, rfl⟩ := h; exact ⟨[], by simpa only [XR] using hx, Gone.refl _ _⟩
  | .i _ _, K0, K1, x, v, hK, h, hx => by simp [expo] at h; obtain ⟨rfl, rfl⟩ := h; exact ⟨[], by simpa only [XR] using hx, Gone.refl _ _⟩
  | .s _, K0, K1, x, v, hK, h, hx => by simp [expo] at h; obtain ⟨rfl, rfl⟩ := h; exact ⟨[], by simpa only [XR] using hx, Gone.refl _ _⟩
  | .nil, K0, K1, x, v, hK, h, hx => by simp [expo] at h; obtain ⟨rfl, rfl⟩ := h; exact ⟨[], by simpa only [XR] using hx, Gone.refl _ _⟩
theorem expos_ok [Wd] (hS : Sim n Y w0 F0 ρ f K a w) : ∀ (cs : List AV) {K0 K1 : KS} {xs : List AV} {vs : List Value}, (∀ i e, kg K0 i = some e → kg K i = some e) → expos K0 cs = some (K1, xs) → XRs w (OO K ρ Y) (EK K ρ) cs vs [] →
    ∃ nb, XRs w TT EN xs vs nb ∧ Gone ρ K0 K1 nb
  | [], K0, K1, xs, vs, hK, h, hx => by
    simp [expos] at h
    obtain ⟨rfl, rfl⟩ := h
    exact ⟨[], by simpa only [XRs] using hx, Gone.refl _ _⟩
  | c :: cs, K0, K1, xs, vs, hK, h, hx => by
    simp only [expos] at h
    split at h
    · rename_i K2 c' hc
      obtain ⟨p, h1, h2⟩ := Option.map_eq_some_iff.1 h
      injection h2 with e1 e2; subst e1 e2
      simp only [XRs] at hx ⊢
      obtain ⟨v, vs', n1, n2, h3, h4, h5, h6⟩ := hx
      obtain ⟨rfl, rfl⟩ := List.append_eq_nil_iff.1 h4.symm
      obtain ⟨nb1, g1, g2⟩ := expo_ok hS c hK hc h5
      have hK2 : ∀ i e, kg K2 i = some e → kg K i = some e := fun i e hi => hK i e (g2.2.2.1 i e hi)
      obtain ⟨nb2, g3, g4⟩ := expos_ok hS cs hK2 h1 h6
      exact ⟨nb1 ++ nb2, ⟨v, vs', nb1, nb2, h3, rfl, g1, g3⟩, Gone.append hS.sees hK2 hK g2 g4⟩
    · cases h
end

def resOf (tmps : Array Value) : ResultVar → Sem Value
  | .tmp t => pure (tmps.getD t undef)
  | .cell a t => do loadVar t (← asAddr (tmps.getD a undef))
theorem results_eq (fn : Func) (tmps : Array Value) : results fn tmps = (do let vs ← fn.results.mapM (resOf tmps); pure (if h : vs.size = 1 then vs[0] else .tuple vs)) := rfl
theorem mapM_res {tmps : Array Value} : ∀ {rs : List ResultVar} {xs : List AV} {O : Nat → Prop} {E : EI}, xress f rs = some xs → (∀ t, XR w O E (f t) (tmps.getD t undef) []) →
    ∃ vs : List Value, (∀ w', (rs.mapM (resOf tmps)).run P w' = .ok vs w') ∧ XRs w O E xs vs [] ∧ vs.length = rs.length
  | [], xs, O, E, h, _ => by
    simp [xress] at h; subst h
    exact ⟨[], fun w' => by simp, by simp [XRs], rfl⟩
  | .cell _ _ :: rs, xs, O, E, h, _ => by simp [xress] at h
  | .tmp t :: rs, xs, O, E, h, hf => by
    simp only [xress] at h
    obtain ⟨ys, h1, rfl⟩ := Option.map_eq_some_iff.1 h
    obtain ⟨vs, h2, h3, h4⟩ := mapM_res h1 hf
    refine ⟨tmps.getD t undef :: vs, fun w' => by simp [List.mapM_cons, resOf, h2 w'], ?_, by simp [h4]⟩
    simp only [XRs]
    exact ⟨_, _, [], [], rfl, rfl, hf t, h3⟩
theorem results_ok {fn : Func} {tmps : Array Value} {O : Nat → Prop} {E : EI} {x : AV} (h : xres fn.results.toList f = some x) (hf : ∀ t, XR w O E (f t) (tmps.getD t undef) []) :
    ∃ v, (results fn tmps).run P w = .ok v w ∧ XR w O E x v [] := by
  unfold xres at h
  split at h
  · rename_i t ht
    injection h with h; subst h
    have e : fn.results = #[.tmp t] := Array.toList_inj.1 ht
    exact ⟨_, by simp [results, e], hf t⟩
  · rename_i hne
    obtain ⟨xs, h1, rfl⟩ := Option.map_eq_some_iff.1 h
    obtain ⟨vs, h2, h3, h4⟩ := mapM_res (P := P) h1 hf
    refine ⟨.tuple vs.toArray, ?_, by simp only [XR]; exact ⟨_, rfl, h3⟩⟩
    have hl : vs.length ≠ 1 := by
      intro hv
      rw [hv] at h4
      obtain ⟨r, hr⟩ := List.length_eq_one_iff.1 h4.symm
      rw [hr] at h1 hne
      cases r with
      | tmp t => exact hne t rfl
      | cell _ _ => simp [xress] at h1
    rw [results_eq, Array.mapM_eq_mapM_toList]
    simp [h2, hl]
end
end Go.Proofs.Ytcpelionmmnogaa.Am
