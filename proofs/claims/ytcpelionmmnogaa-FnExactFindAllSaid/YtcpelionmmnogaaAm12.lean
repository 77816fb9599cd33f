/- An abstract machine for the walks: from a function's code to its contract. No condition. -/
import Derived.Test.YtcpelionmmnogaaAm11
namespace Go.Proofs.Ytcpelionmmnogaa.Am
open Go
set_option linter.unusedVariables false
set_option linter.unusedSimpArgs false

theorem EnterOK.of {P : Program} {g : FuncId} {fn : Func} {c : Code} (hf : P.funcs[g]? = some fn) (hb : fn.body = some c) (hn : fn.name ≠ "runtime.NumGoroutine") : EnterOK P g := fun args w => by
  simp [callFunc, hf, hb, hn]

section
variable {P : Program} {Y : Nat → Prop} {w : World}

theorem XRs_arg {O : Nat → Prop} {E : EI} : ∀ {args : List AV} {vs : List Value} (t : Nat), XRs w O E args vs [] → XR w O E (args.getD t .u) (vs.getD t undef) []
  | [], vs, t, h => by simp [XR]
  | x :: args, vs, t, h => by
    simp only [XRs] at h
    obtain ⟨v, vs', n1, n2, rfl, h2, h3, h4⟩ := h
    obtain ⟨rfl, rfl⟩ := List.append_eq_nil_iff.1 h2.symm
    cases t with
    | zero => simpa using h3
    | succ t => simpa using XRs_arg t h4

theorem Sim.init [Wd] {N : Nat} {E0 : EI} {F0 : Nat → Prop} {ρ : RHO} {K : KS} {args : List AV} {vs : List Value} (hN : args.length ≤ N) (hX : XRs w (OO K ρ Y) (EK K ρ) args vs []) (hK : Keep E0 (EK K ρ)) (hS : Sees w (OO K ρ Y) K ρ)
    (hnew : ∀ j e b, kg K j = some e → b ∈ fp ρ j → F0 b ∨ w.heap.size ≤ b) (hY : (∀ b, Y b → b < w.heap.size ∧ ¬ F0 b) ∧ ∀ w', Ext F0 w w' → Wd.I w') :
    Sim ⟨N, E0⟩ Y w F0 ρ (argsAt args) K { tmps := vs.toArray ++ Array.replicate (N - vs.toArray.size) undef, defers := [] } w := by
  have hl := XRs_length hX
  refine ⟨rfl, by simp; omega, hK, fun t => ?_, hS, Ext.refl _ _, hnew, hY⟩
  have h := XRs_arg t hX
  have e : (vs.toArray ++ Array.replicate (N - vs.toArray.size) undef).getD t undef = vs.getD t undef := by
    simp only [Array.getD_eq_getD_getElem?, List.getD_eq_getElem?_getD]
    by_cases ht : t < vs.length
    · rw [Array.getElem?_append_left (by simpa using ht)]; simp
    · rw [Array.getElem?_append_right (by simpa using ht)]
      rw [List.getElem?_eq_none (by omega)]
      simp [Array.getElem?_replicate]
      split <;> rfl
  simp only [argsAt]
  rw [e]; exact h

theorem PC.of_code [Wd] (hm : P.follows .mixedOrders = true) {g : FuncId} {fn : Func} {c : Code} {args : List AV} {R : AV → Prop} (hf : P.funcs[g]? = some fn) (hb : fn.body = some c) (hn : fn.name ≠ "runtime.NumGoroutine")
    (ho : codeOK fn.ntmps c = true) (ha : args.length ≤ fn.ntmps) (h : xcode P 0 c (xfin (xretP R fn.results.toList)) (argsAt args) [] ()) : PC P g args R := by
  refine ⟨EnterOK.of hf hb hn, fun w vs hI hX => calls_of_wp hf hb ?_⟩
  let ρ : RHO := fun _ => (none, [])
  have eO : OO [] ρ FF = FF := by funext b; simp [OO, kg]
  have eE : EK [] ρ = EN := by simp [EK, EN, kg]
  have hS : Sim ⟨fn.ntmps, EN⟩ FF w FF ρ (argsAt args) [] { tmps := vs.toArray ++ Array.replicate (fn.ntmps - vs.toArray.size) undef, defers := [] } w :=
    Sim.init ha (by rw [eO, eE]; exact hX) (by rw [eE]; exact ⟨Nat.le_refl _, fun _ _ _ h => h⟩) ⟨fun j e h => by simp [kg] at h, fun j e h => by simp [kg] at h, fun j e b h => by simp [kg] at h, fun j e k e' b h => by simp [kg] at h⟩
      (fun j e b h => by simp [kg] at h) ⟨fun b h => h.elim, fun w' he => Wd.keep he hI⟩
  refine wp_mono (xcode_ok (n := ⟨fn.ntmps, EN⟩) (Nat.le_refl _) hm c ho hS h) fun e a w' hq => ?_
  have fin : Has ⟨fn.ntmps, EN⟩ FF w FF (xretP R fn.results.toList) a w' → a.defers = [] ∧ ∃ v, (results fn a.tmps).run P w' = .ok v w' ∧ (∃ v' x nb, Ending.returned v = .returned v' ∧ R x ∧ XR w' TT EN x v' nb ∧ nb.Nodup ∧ (∀ b ∈ nb, w.heap.size ≤ b ∧ b < w'.heap.size) ∧ Ext FF w w') := by
    rintro ⟨f, K, ρ, hS, hR⟩
    refine ⟨hS.defers, ?_⟩
    unfold xretP at hR
    split at hR
    · rename_i x hx
      split at hR
      · rename_i K1 x' hx'
        obtain ⟨v, h1, h2⟩ := results_ok (P := P) hx hS.fr
        obtain ⟨nb, h3, h4, h5, h6, h7⟩ := expo_ok hS x (fun _ _ h => h) hx' h2
        refine ⟨v, h1, v, x', nb, rfl, hR, h3, h4, fun b hb => ?_, hS.ext⟩
        obtain ⟨j, e, q1, q2, q3⟩ := h7 b hb
        refine ⟨?_, hS.sees.lt j e b q1 q3⟩
        rcases hS.new j e b q1 q3 with q | q
        · exact q.elim
        · exact q
      · exact hR.elim
    · exact hR.elim
  cases e with
  | normal => exact fin hq
  | ret => exact fin hq
  | exit id => obtain ⟨_, _, _, _, hq⟩ := hq; exact hq.elim
  | goto l => exact hq.elim
  | panic l => exact hq.elim
  | outgrown => exact hq.elim

theorem AC.of_code [Wd] (hm : P.follows .mixedOrders = true) {g : FuncId} {fn : Func} {c : Code} {K1 : KS} {args : List AV} {R : AV → KS → Prop} (hf : P.funcs[g]? = some fn) (hb : fn.body = some c) (hn : fn.name ≠ "runtime.NumGoroutine")
    (ho : codeOK fn.ntmps c = true) (ha : args.length ≤ fn.ntmps) (h : xcode P K1.length c (xfin (xretA R fn.results.toList)) (argsAt args) K1 ()) : AC P g K1 args R := by
  refine ⟨EnterOK.of hf hb hn, fun w ρ Y vs hI hY hSe hX => calls_of_wp hf hb ?_⟩
  let F0 : Nat → Prop := fun b => ∃ j e, kg K1 j = some e ∧ b ∈ fp ρ j
  have hS : Sim ⟨fn.ntmps, EK K1 ρ⟩ Y w F0 ρ (argsAt args) K1 { tmps := vs.toArray ++ Array.replicate (fn.ntmps - vs.toArray.size) undef, defers := [] } w :=
    Sim.init ha hX ⟨Nat.le_refl _, fun _ _ _ h => h⟩ hSe (fun j e b hj hb => .inl ⟨j, e, hj, hb⟩) ⟨fun b hb => ⟨(hY b hb).1, fun ⟨j, e, hj, hb'⟩ => (hY b hb).2 j e hj hb'⟩, hI⟩
  refine wp_mono (xcode_ok (n := ⟨fn.ntmps, EK K1 ρ⟩) (Nat.le_refl _) hm c ho hS h) fun e a w' hq => ?_
  have fin : Has ⟨fn.ntmps, EK K1 ρ⟩ Y w F0 (xretA R fn.results.toList) a w' → a.defers = [] ∧ ∃ v, (results fn a.tmps).run P w' = .ok v w' ∧ (∃ v' r K' ρ', Ending.returned v = .returned v' ∧ R r K' ∧ K1.length ≤ K'.length ∧ XR w' (OO K' ρ' Y) (EK K' ρ') r v' [] ∧ Sees w' (OO K' ρ' Y) K' ρ' ∧
      Ext (fun b => ∃ j e, kg K1 j = some e ∧ b ∈ fp ρ j) w w' ∧ (∀ j e b, kg K' j = some e → b ∈ fp ρ' j → (∃ i e', kg K1 i = some e' ∧ b ∈ fp ρ i) ∨ w.heap.size ≤ b) ∧
      ∀ j e', j < K1.length → kg K' j = some e' → ∃ e, kg K1 j = some e ∧ (ρ' j).1 = (ρ j).1 ∧ e'.n = e.n ∧ e'.rows.length = e.rows.length) := by
    rintro ⟨f, K, ρ1, hS, hR⟩
    refine ⟨hS.defers, ?_⟩
    unfold xretA at hR
    split at hR
    · rename_i x hx
      obtain ⟨v, h1, h2⟩ := results_ok (P := P) hx hS.fr
      refine ⟨v, h1, v, x, K, ρ1, rfl, hR, hS.keep.1, h2, hS.sees, hS.ext, hS.new, fun j e' hj hj' => ?_⟩
      have h3 := hS.keep.2 j ((ρ1 j).1, e'.n, e'.rows.length) hj (by simp [EK, hj'])
      simp only [EK] at h3
      obtain ⟨e, h4, h5⟩ := Option.map_eq_some_iff.1 h3
      injection h5 with h5 h6; injection h6 with h6 h7
      exact ⟨e, h4, h5.symm, h6.symm, h7.symm⟩
    · exact hR.elim
  cases e with
  | normal => exact fin hq
  | ret => exact fin hq
  | exit id => obtain ⟨_, _, _, _, hq⟩ := hq; exact hq.elim
  | goto l => exact hq.elim
  | panic l => exact hq.elim
  | outgrown => exact hq.elim
end
end Go.Proofs.Ytcpelionmmnogaa.Am
