/- An abstract machine for the walks: an operation looks at its operands alone; what hands on what. No condition. -/
import Derived.Test.YtcpelionmmnogaaAm12
namespace Go.Proofs.Ytcpelionmmnogaa.Am
open Go
set_option linter.unusedVariables false
set_option linter.unusedSimpArgs false

theorem xop_congr [Wd] {P : Program} {o : Op} {f f' : Fr} {K : KS} {k : AV → KS → Prop} (h : ∀ x ∈ o.operands, ev f x = ev f' x) : xop P o f K k () = xop P o f' K k () := by
  have pairs : ∀ ps : Array (Nat × Operand), (∀ x ∈ (ps.toList.map (·.2)).toArray, ev f x = ev f' x) → (ps.toList.map fun p => (p.1, ev f p.2)) = ps.toList.map fun p => (p.1, ev f' p.2) := fun ps hp =>
    List.map_congr_left fun p hm => by rw [hp p.2 (by simp; exact ⟨p.1, by simpa using hm⟩)]
  have args : ∀ {c : Callee} {xs : Array Operand} {ts : Array TypeId}, (∀ x ∈ (Op.call ⟨c, xs, ts⟩).operands, ev f x = ev f' x) → ∀ x ∈ xs.toList, ev f x = ev f' x := fun {c xs ts} h x hx =>
    h x (by simp only [Op.operands, Call.operands]; cases c <;> simp <;> simp at hx <;> simp [hx])
  unfold xop
  split
  all_goals try simp only [Op.operands] at h
  case h_6 => rw [pairs _ h]
  case h_7 => rw [pairs _ h]
  all_goals try (simp at h; simp [h]; done)
  case h_13 g first caps =>
    have : caps.toList.map (ev f) = caps.toList.map (ev f') := List.map_congr_left fun x hx => h x (by simp at hx ⊢; exact .inr hx)
    rw [this]
  case h_17 as ts =>
    have ha := args h
    split
    · rename_i h1 h2
      rw [h1] at ha
      rw [ha _ (by simp)]
    · rfl
  case h_18 as ts =>
    have ha := args h
    split
    · rename_i h1 h2
      rw [h1] at ha
      rw [ha _ (by simp), ha _ (by simp)]
    · rfl
  case h_19 as ts =>
    have ha := args h
    split
    · rename_i h1
      rw [h1] at ha
      rw [ha _ (by simp), ha _ (by simp)]
    · rfl
  case h_20 as ts =>
    have ha := args h
    split
    · rename_i h1
      rw [h1] at ha
      rw [ha _ (by simp), ha _ (by simp)]
    · rfl
  case h_21 g as ts =>
    have ha := args h
    have hg := h g (by simp [Call.operands])
    rw [hg, List.map_congr_left ha]
  case h_23 t x lo hi =>
    have e1 : lo.map (ev f) = lo.map (ev f') := by
      cases lo with
      | none => rfl
      | some o => simp only [Option.map_some]; rw [h o (by simp)]
    have e2 : hi.map (ev f) = hi.map (ev f') := by
      cases hi with
      | none => rfl
      | some o => simp only [Option.map_some]; rw [h o (by simp)]
    rw [h x (by simp), e1, e2]
end Go.Proofs.Ytcpelionmmnogaa.Am
