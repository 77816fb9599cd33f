/- An abstract machine for the walks: a region in whatever order. No condition. -/
import Derived.Test.YtcpelionmmnogaaAm16
namespace Go.Proofs.Ytcpelionmmnogaa.Am
open Go
set_option linter.unusedVariables false
set_option linter.unusedSimpArgs false

/-- One operation of a region, its guard looked at first; its calls write nothing. -/
def xone [Wd] (P : Program) (ops : Array Oper) (o : Oper) (f : Fr) (K : KS) (c : Fr → KS → Prop) : Prop :=
  match o.guard with
  | none => xopP P o.op f K (fun v K' => xset o.dst v f (fun f => c f K') ()) ()
  | some (j, want) => xgd ((ops[j]?).bind (·.dst)) want f (fun f => xopP P o.op f K (fun v K' => xset o.dst v f (fun f => c f K') ()) ()) (fun f => xset o.dst (.tup []) f (fun f => c f K) ()) ()
/-- Whatever comes up. -/
def XAny [Wd] (P : Program) (ops : Array Oper) (k : Fr → KS → Prop) : Nat → Array Bool → Fr → KS → Prop
  | 0, listed, f, K => Region.ready .any ops listed = [] ∧ k f K
  | fuel + 1, listed, f, K => (Region.ready .any ops listed = [] → k f K) ∧
    ∀ i ∈ Region.ready .any ops listed, ∀ o, ops[i]? = some o → xone P ops o f K (fun f K => XAny P ops k fuel (listed.setIfInBounds i true) f K)

section
variable {P : Program} {n : NE} {Y : Nat → Prop} {w0 : World} {F0 : Nat → Prop} {ρ : RHO} {f : Fr} {K : KS} {a : Act} {w : World}
theorem xone_ok [Wd] {ops : Array Oper} {Q : Exit → Act → World → Prop} {i : Nat} {o : Oper} (ho : ops[i]? = some o) (hd : dstOK n.n o = true) {c : Fr → KS → Prop} (hS : Sim n Y w0 F0 ρ f K a w) (h : xone P ops o f K c) :
    wpOp P ops Q i (fun a w => Has n Y w0 F0 c a w) a w := by
  have hdst : ∀ d, o.dst = some d → d < n.n := fun d hd' => by simpa [dstOK, hd'] using hd
  unfold wpOp
  simp only [ho]
  have run : ∀ {f}, Sim n Y w0 F0 ρ f K a w → xopP P o.op f K (fun v K' => xset o.dst v f (fun f => c f K') ()) () → o.wp P a w (fun a w => Has n Y w0 F0 c a w) Q := fun {f} hS h =>
    (xop_ok hS (xopP_xop h)).wp fun v w' ⟨av, K', ρ', h1, h2, h3⟩ => by
      obtain ⟨f', h4, h5⟩ := h1.putO hdst h2 h3
      exact ⟨f', K', ρ', h4, h5⟩
  unfold xone at h
  split at h
  · rename_i hg
    rw [if_pos (by simp [Region.wanted, hg])]
    exact .inl (run hS h)
  · rename_i j want hg
    unfold xgd at h
    split at h
    · rename_i d hj
      have no : ∀ f, Sim n Y w0 F0 ρ f K a w → xset o.dst (.tup []) f (fun f => c f K) () → Has n Y w0 F0 c (a.put o.dst undef) w := fun f hS h => by
        obtain ⟨f', h4, h5⟩ := hS.putO hdst (v := undef) (undef_ok _ _ _) h
        exact ⟨f', K, ρ, h4, h5⟩
      split at h
      · rename_i x hx
        have hv := hS.fr d
        rw [hx] at hv
        simp only [XR] at hv
        have hdn : d < n.n := by
          refine Nat.lt_of_not_le fun hge => ?_
          have := hv.1
          rw [Array.getD_eq_getD_getElem?, Array.getElem?_eq_none (by rw [hS.size]; exact hge)] at this
          cases this
        have hy : yielded ops a.tmps j = some x := by
          unfold yielded
          have h1 : a.tmps[d]? = some (.bool x) := by
            have h2 := hv.1
            rw [Array.getD_eq_getD_getElem?] at h2
            rw [Array.getElem?_eq_getElem (by rw [hS.size]; exact hdn)] at h2 ⊢
            simpa using h2
          simp only [hj, Option.bind_some, h1]
        have hw : Region.wanted o (yielded ops a.tmps) = (x == want) := by simp [Region.wanted, hg, hy]
        have hS' := hS.self d
        rw [hx] at hS'
        unfold XBr at h
        rw [hw]
        cases x <;> cases want <;> simp at h ⊢
        · exact .inl (run hS' h)
        · exact no _ hS' h
        · exact no _ hS' h
        · exact .inl (run hS' h)
      · rename_i hx
        have hv := hS.fr d
        rw [hx] at hv
        rw [not_wanted hg hj hv]
        simp
        exact no _ hS h
      · exact h.elim
    · exact h.elim

theorem XAny_ok [Wd] {ops : Array Oper} {Q : Exit → Act → World → Prop} {k : Fr → KS → Prop} (hd : ops.toList.all (dstOK n.n) = true) (hQ : ∀ a w, Has n Y w0 F0 k a w → Q .normal a w) :
    ∀ (fuel : Nat) (listed : Array Bool) (ρ : RHO) (f : Fr) (K : KS) (a : Act) (w : World), Sim n Y w0 F0 ρ f K a w → XAny P ops k fuel listed f K → wpAny P .any ops Q fuel listed a w
  | 0, listed, ρ, f, K, a, w, hS, h => ⟨h.1, hQ a w ⟨f, K, ρ, hS, h.2⟩⟩
  | fuel + 1, listed, ρ, f, K, a, w, hS, h => ⟨fun h0 => hQ a w ⟨f, K, ρ, hS, h.1 h0⟩, fun i hi => by
    cases ho : ops[i]? with
    | none =>
      have := hi
      simp [Region.ready, ho] at this
    | some o =>
      have hdo : dstOK n.n o = true := (List.all_eq_true.1 hd) o (by rw [← Array.getElem?_toList] at ho; exact List.mem_of_getElem? ho)
      exact wpOp_mono (fun a w ⟨f, K, ρ, h1, h2⟩ => XAny_ok hd hQ fuel _ ρ f K a w h1 h2) (xone_ok ho hdo hS (h.2 i hi o ho))⟩
end
end Go.Proofs.Ytcpelionmmnogaa.Am
