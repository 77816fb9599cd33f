/- An abstract machine for the walks: regions renamed and forgotten, and what a function's code says of its calls. No condition. -/
import Derived.Test.YtcpelionmmnogaaAm9
namespace Go.Proofs.Ytcpelionmmnogaa.Am
open Go
set_option linter.unusedVariables false
set_option linter.unusedSimpArgs false

/-- Where j stands in the list. -/
def posn : List Nat → Nat → Option Nat
  | [], _ => none
  | x :: xs, j => if x = j then some 0 else (posn xs j).map (· + 1)
theorem posn_at : ∀ {π : List Nat} {j i : Nat}, posn π j = some i → π[i]? = some j
  | [], j, i, h => by cases h
  | x :: xs, j, i, h => by
    unfold posn at h
    split at h
    · rename_i hx; injection h with h; subst h hx; rfl
    · obtain ⟨i', h1, rfl⟩ := Option.map_eq_some_iff.1 h
      simpa using posn_at h1
mutual
/-- A value when the region that was number π[i] is number i now; the others are forgotten. -/
def ren (π : List Nat) : AV → AV
  | .sl j => match posn π j with | some i => .sl i | none => .u
  | .ptr j i o => match posn π j with | some j => .ptr j i o | none => .u
  | .agg cs => .agg (rens π cs)
  | .tup cs => .tup (rens π cs)
  | .clo g cs => .clo g (rens π cs)
  | v => v
def rens (π : List Nat) : List AV → List AV
  | [] => []
  | c :: cs => ren π c :: rens π cs
end
theorem rens_length (π : List Nat) : ∀ cs : List AV, (rens π cs).length = cs.length
  | [] => rfl
  | c :: cs => by simp [rens, rens_length π cs]
def renE (π : List Nat) : Ent → Ent
  | .box cs => .box (rens π cs)
  | .lst n rows => .lst n rows

/-- E' says of the regions by their new numbers what E says by the old ones. -/
def Ren (π : List Nat) (E E' : EI) : Prop := ∀ j i, posn π j = some i → i < E'.sz ∧ ∀ p, E'.of i = some p → E.of j = some p
mutual
theorem XR_ren {π : List Nat} {O O' : Nat → Prop} {E E' : EI} {w : World} (hs : Same O EN w O' EN w) (hE : Ren π E E') : ∀ (a : AV) {v : Value}, XR w O E a v [] → XR w O' E' (ren π a) v []
  | .sl j, v, h => by
    simp only [ren]
    split
    · rename_i i hi
      obtain ⟨h1, h2⟩ := hE j i hi
      simp only [XR] at h ⊢
      exact ⟨trivial, h1, fun n len he => h.2.2.1 n len (h2 _ he), fun bl n len he => h.2.2.2 bl n len (h2 _ he)⟩
    · simp [XR]
  | .ptr j i o, v, h => by
    simp only [ren]
    split
    · rename_i k hi
      obtain ⟨h1, h2⟩ := hE j k hi
      simp only [XR] at h ⊢
      exact ⟨trivial, h1, fun n len he => h.2.2.1 n len (h2 _ he), fun bl n len he => h.2.2.2 bl n len (h2 _ he)⟩
    · simp [XR]
  | .u, v, h => by simp [ren, XR]
  | .b _, v, h => by simpa only [ren, XR] using h
  | .i _ _, v, h => by simpa only [ren, XR] using h
  | .s _, v, h => by simpa only [ren, XR] using h
  | .nil, v, h => by simpa only [ren, XR] using h
  | .imm n rows, v, h => by
    have : XR w O EN (.imm n rows) v [] := by simpa only [XR] using h
    have := XR.mono _ hs v [] (by simp) this
    simpa only [ren, XR] using this
  | .iptr n rows i o, v, h => by
    have : XR w O EN (.iptr n rows i o) v [] := by simpa only [XR] using h
    have := XR.mono _ hs v [] (by simp) this
    simpa only [ren, XR] using this
  | .own n rows, v, h => by
    have : XR w O EN (.own n rows) v [] := by simpa only [XR] using h
    have := XR.mono _ hs v [] (by simp) this
    simpa only [ren, XR] using this
  | .agg cs, v, h => by
    simp only [ren, XR] at h ⊢
    obtain ⟨vs, h1, h2⟩ := h
    exact ⟨vs, h1, XRs_ren hs hE cs h2⟩
  | .tup cs, v, h => by
    simp only [ren, XR] at h ⊢
    obtain ⟨vs, h1, h2⟩ := h
    exact ⟨vs, h1, XRs_ren hs hE cs h2⟩
  | .clo g cs, v, h => by
    simp only [ren, XR] at h ⊢
    obtain ⟨h0, vs, h1, h2⟩ := h
    exact ⟨h0, vs, h1, XRs_ren hs hE cs h2⟩
theorem XRs_ren {π : List Nat} {O O' : Nat → Prop} {E E' : EI} {w : World} (hs : Same O EN w O' EN w) (hE : Ren π E E') : ∀ (cs : List AV) {vs : List Value}, XRs w O E cs vs [] → XRs w O' E' (rens π cs) vs []
  | [], vs, h => by simpa only [rens, XRs] using h
  | c :: cs, vs, h => by
    simp only [rens, XRs] at h ⊢
    obtain ⟨v, vs', n1, n2, h1, h2, h3, h4⟩ := h
    obtain ⟨rfl, rfl⟩ := List.append_eq_nil_iff.1 h2.symm
    exact ⟨v, vs', [], [], h1, rfl, XR_ren hs hE c h3, XRs_ren hs hE cs h4⟩
end
theorem CR_ren {π : List Nat} {O O' : Nat → Prop} {E E' : EI} {w : World} (hs : Same O EN w O' EN w) (hE : Ren π E E') : ∀ (cs : List AV) {bl o : Nat}, CR w O E bl o cs [] → CR w O' E' bl o (rens π cs) []
  | [], bl, o, h => by simp only [rens, CR] at h ⊢ <;> exact h
  | c :: cs, bl, o, h => by
    simp only [rens, CR] at h ⊢
    obtain ⟨v, n1, n2, h1, h2, h3, h4⟩ := h
    obtain ⟨rfl, rfl⟩ := List.append_eq_nil_iff.1 h2.symm
    exact ⟨v, [], [], h1, rfl, XR_ren hs hE c h3, CR_ren hs hE cs h4⟩

theorem frm_map (sl : List Nat) (g : Nat → AV) (t : Nat) : frm (sl.map fun t => (t, g t)) t = g t ∨ frm (sl.map fun t => (t, g t)) t = .u := by
  induction sl with
  | nil => exact .inr rfl
  | cons s sl ih =>
    simp only [List.map_cons, frm, up]
    split
    · rename_i h; subst h; exact .inl rfl
    · exact ih

theorem Wk.ren [Wd] {z : Nat} {f : Fr} {K : KS} (π sl : List Nat) (h1 : π.Nodup) (h2 : π.take z = List.range z) :
    Wk z f K (frm (sl.map fun t => (t, Am.ren π (f t)))) (π.map fun j => (kg K j).map (renE π)) := by
  intro n Y w0 F0 ρ a w hz hS
  let K' : KS := π.map fun j => (kg K j).map (renE π)
  let ρ' : RHO := fun i => ρ (π.getD i 0)
  have hK' : ∀ i e', kg K' i = some e' → ∃ j e, π[i]? = some j ∧ kg K j = some e ∧ e' = renE π e ∧ ρ' i = ρ j := fun i e' hi => by
    simp only [kg, K', List.getD, List.getElem?_map] at hi
    cases hj : π[i]? with
    | none => simp [hj] at hi
    | some j =>
      simp only [hj, Option.map_some, Option.getD_some] at hi
      obtain ⟨e, he, rfl⟩ := Option.map_eq_some_iff.1 hi
      exact ⟨j, e, rfl, he, rfl, by simp [ρ', List.getD, hj]⟩
  have hn : ∀ e : Ent, (renE π e).n = e.n := fun e => by cases e <;> simp [renE, Ent.n, rens_length]
  have hl : ∀ e : Ent, (renE π e).rows.length = e.rows.length := fun e => by cases e <;> simp [renE, Ent.rows]
  have hlen : K'.length = π.length := by simp [K']
  have hzl : z ≤ π.length := by
    have := congrArg List.length h2
    simp at this; omega
  have hinj : ∀ i i' j, π[i]? = some j → π[i']? = some j → i = i' := fun i i' j h h' => by
    have hi : i < π.length := by
      rcases Nat.lt_or_ge i π.length with q | q
      · exact q
      · rw [List.getElem?_eq_none q] at h; cases h
    exact (List.getElem?_inj hi h1).1 (h.trans h'.symm)
  have hof : ∀ i p, (EK K' ρ').of i = some p → ∃ j, π[i]? = some j ∧ (EK K ρ).of j = some p := fun i p hp => by
    simp only [EK] at hp ⊢
    cases hk : kg K' i with
    | none => rw [hk] at hp; cases hp
    | some e' =>
      obtain ⟨j, e, q1, q2, rfl, q4⟩ := hK' i e' hk
      refine ⟨j, q1, ?_⟩
      rw [hk] at hp
      rw [q2]
      simp only [Option.map_some, hn, hl, q4] at hp ⊢
      exact hp
  have hRen : Ren π (EK K ρ) (EK K' ρ') := fun j i hi => by
    have hp := posn_at hi
    refine ⟨?_, fun p hp' => ?_⟩
    · simp only [EK, hlen]
      rcases Nat.lt_or_ge i π.length with q | q
      · exact q
      · rw [List.getElem?_eq_none q] at hp; cases hp
    · obtain ⟨j', q1, q2⟩ := hof i p hp'
      rw [hp] at q1; injection q1 with q1; subst q1
      exact q2
  have hO : ∀ b, OO K' ρ' Y b → OO K ρ Y b := by
    rintro b (h | ⟨i, e', hi, hb⟩)
    · exact .inl h
    · obtain ⟨j, e, q1, q2, _, q4⟩ := hK' i e' hi
      exact .inr ⟨j, e, q2, by unfold fp at hb ⊢; rwa [q4] at hb⟩
  have hs : Same (OO K ρ Y) EN w (OO K' ρ' Y) EN w := Same.weak hO
  refine ⟨ρ', hS.defers, hS.size, ⟨?_, fun j p hj hp => ?_⟩, fun t => ?_, ⟨fun i e' hi => ?_, fun i e' hi => ?_, fun i e' b hi hb => ?_, fun i e' k e'' b hi hk hik hb hb' => ?_⟩, hS.ext, fun i e' b hi hb => ?_, hS.yl⟩
  · show n.E.sz ≤ K'.length
    omega
  · obtain ⟨j', q1, q2⟩ := hof j p hp
    have : π[j]? = some j := by
      have hjz : j < z := by omega
      have h3 := congrArg (·[j]?) h2
      simp only [List.getElem?_take, hjz, if_true] at h3
      rw [h3]; simp [hjz]
    rw [this] at q1; injection q1 with q1; subst q1
    exact hS.keep.2 j p hj q2
  · rcases frm_map sl (fun t => Am.ren π (f t)) t with h | h
    · rw [h]; exact XR_ren hs hRen (f t) (hS.fr t)
    · rw [h]; simp [XR]
  · obtain ⟨j, e, q1, q2, rfl, q4⟩ := hK' i e' hi
    have hr := hS.sees.reg j e q2
    rw [q4]
    unfold Reg at hr ⊢
    cases hb : (ρ j).1 with
    | none =>
      rw [hb] at hr
      refine ⟨?_, hr.2⟩
      have := hl e
      rw [hr.1] at this
      exact List.length_eq_zero_iff.1 this
    | some b =>
      rw [hb] at hr
      simp only [hn, hl] at hr ⊢
      obtain ⟨r1, r2, r3⟩ := hr
      refine ⟨r1, ?_, fun hbx => r3 (by cases e <;> first | (simp [renE, Ent.isBox] at hbx; done) | simp [renE, Ent.isBox])⟩
      cases e with
      | lst m rows => exact RR.mono _ hs _ _ _ rfl (fun _ _ => rfl) r2
      | box cs =>
        have h0 := r3 rfl
        rw [h0] at r2 ⊢
        simp only [renE, Ent.rows, Ent.E, Ent.n, RR] at r2 ⊢
        obtain ⟨n1, n2, e1, e2, e3, rfl⟩ := r2
        obtain ⟨rfl, _⟩ := List.append_eq_nil_iff.1 e1.symm
        exact ⟨[], [], rfl, rens_length π cs, CR_ren hs hRen cs e3, rfl⟩
  · obtain ⟨j, e, q1, q2, rfl, q4⟩ := hK' i e' hi
    have := hS.sees.nd j e q2
    unfold fp at this ⊢
    rwa [q4]
  · obtain ⟨j, e, q1, q2, rfl, q4⟩ := hK' i e' hi
    unfold fp at hb
    rw [q4] at hb
    exact hS.sees.lt j e b q2 hb
  · obtain ⟨j, e, q1, q2, rfl, q4⟩ := hK' i e' hi
    obtain ⟨j', e0, q5, q6, rfl, q8⟩ := hK' k e'' hk
    unfold fp at hb hb'
    rw [q4] at hb
    rw [q8] at hb'
    have hjj : j ≠ j' := fun h => by subst h; exact hik (hinj i k j q1 q5)
    exact hS.sees.dj j e j' e0 b q2 q6 hjj hb hb'
  · obtain ⟨j, e, q1, q2, rfl, q4⟩ := hK' i e' hi
    unfold fp at hb
    rw [q4] at hb
    exact hS.new j e b q2 hb

theorem Wk.refl [Wd] (z : Nat) (f : Fr) (K : KS) : Wk z f K f K := fun n Y w0 F0 ρ a w _ hS => ⟨ρ, hS⟩
theorem Wk.trans [Wd] {z : Nat} {f f1 f2 : Fr} {K K1 K2 : KS} (h : Wk z f K f1 K1) (h' : Wk z f1 K1 f2 K2) : Wk z f K f2 K2 := fun n Y w0 F0 ρ a w hz hS => by
  obtain ⟨ρ1, h1⟩ := h n Y w0 F0 ρ a w hz hS
  exact h' n Y w0 F0 ρ1 a w hz h1
/-- An empty slice in slot t as a region without memory. -/
theorem Wk.nil [Wd] {z : Nat} {f : Fr} {K : KS} (t m : Nat) (ht : f t = .nil) : Wk z f K (up f t (.sl K.length)) (K ++ [some (.lst m [])]) := fun n Y w0 F0 ρ a w hz hS => by
  obtain ⟨ρ', s1, s2⟩ := hS.addNil (K1 := K) rfl (fun _ _ h => h) m
  refine ⟨ρ', s1.defers, s1.size, s1.keep, fun s => ?_, s1.sees, s1.ext, s1.new, s1.yl⟩
  unfold up
  split
  · rename_i h
    subst h
    have := s1.fr s
    rw [ht] at this
    simp only [XR] at this
    obtain ⟨⟨q, hq⟩, _⟩ := this
    rw [hq]
    exact s2 _ q
  · exact s1.fr s
end Go.Proofs.Ytcpelionmmnogaa.Am
