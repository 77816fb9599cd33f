/- An abstract machine for the walks: pure operations come first. No condition. -/
import Derived.Test.YtcpelionmmnogaaAm18
namespace Go.Proofs.Ytcpelionmmnogaa.Am
open Go
set_option linter.unusedVariables false
set_option linter.unusedSimpArgs false

/-- What o leaves of the regions. -/
def Rel (P : Program) (o : Op) (K K' : KS) : Prop := pureOp o = true ∧ K' = K ∨ growOp o = true ∧ Keeps K K' ∨ isStore P o = true ∧ Shape K K'
def calm (P : Program) (o : Op) : Bool := pureOp o || growOp o || isStore P o
theorem Rel.refl {P : Program} {o : Op} (h : calm P o = true) (K : KS) : Rel P o K K := by
  simp only [calm, Bool.or_eq_true] at h
  rcases h with (h | h) | h
  · exact .inl ⟨h, rfl⟩
  · exact .inr (.inl ⟨h, Keeps.refl K⟩)
  · exact .inr (.inr ⟨h, Shape.refl K⟩)
theorem xopP_rel [Wd] {P : Program} {o : Op} {f : Fr} {K : KS} {k k' : AV → KS → Prop} (hc : calm P o = true) (h : xopP P o f K k ()) (hk : ∀ v K', Rel P o K K' → k v K' → k' v K') : xopP P o f K k' () := by
  simp only [calm, Bool.or_eq_true] at hc
  rcases hc with (hc | hc) | hc
  · rw [xopP_pure_eq hc] at h ⊢
    obtain ⟨v, h1, h2⟩ := xop_pure hc h
    exact h2 K _ (.inr (.inr (Keeps.refl K))) (hk _ _ (.inl ⟨hc, rfl⟩) h1)
  · exact xopP_grow hc h fun v K' hs h => hk _ _ (.inr (.inl ⟨hc, hs⟩)) h
  · cases o <;> simp [isStore] at hc
    rename_i t p v
    have h' : xstoreX (flT P t) (slz P 9 t) K (tk P t) (ev f p) (ev f v) (fun K => k .u K) () := h
    show xstoreX (flT P t) (slz P 9 t) K (tk P t) (ev f p) (ev f v) (fun K => k' .u K) ()
    rw [hc] at h' ⊢
    exact xstoreX_shape h' fun K' hs h => hk _ _ (.inr (.inr ⟨hc, hs⟩)) h

theorem apart_agree {ops : Array Oper} {oj : Oper} {d : Nat} {r : AV} {f : Fr} (h : d ∉ oj.looksAt ops) : Agree ops oj f (up f d r) := fun t ht => by
  have : t ≠ d := fun h' => by subst h'; exact h ht
  simp [up, this]
theorem updO_comm (f : Fr) (d : Nat) (dj : Option Nat) (v x : AV) (h : dj ≠ some d) : updO (up f d v) dj x = up (updO f dj x) d v := by
  cases dj with
  | none => rfl
  | some e => exact up_comm f d e v x (fun h' => h (by rw [h']))
/-- oj, behind oi or ahead of it. -/
theorem xone_swap [Wd] {P : Program} {ops : Array Oper} {oi oj : Oper} {d : Nat} {r : AV} {f : Fr} {K : KS} {c : Fr → KS → Prop} (hc : calm P oj.op = true) (hap : oi.apart ops oj = true) (hd : oi.dst = some d)
    (h : xone P ops oj (up f d r) K c) : xone P ops oj f K (fun f' K' => (∃ x, f' = updO f oj.dst x) ∧ Rel P oj.op K K' ∧ c (up f' d r) K') := by
  obtain ⟨a1, a2, a3⟩ := Oper.apart_spec hap
  have hag : Agree ops oj f (up f d r) := apart_agree (a1 d hd)
  have h1 := xone_eq.1 h
  refine xone_eq.2 ?_
  rw [gd_agree hag] at h1
  have hne : oj.dst ≠ some d := a2 d hd
  cases hg : gd ops oj f with
  | none => rw [hg] at h1; exact h1.elim
  | some b =>
    rw [hg] at h1
    cases b with
    | false =>
      simp only at h1 ⊢
      rw [updO_comm _ _ _ _ _ hne] at h1
      exact ⟨⟨_, rfl⟩, Rel.refl hc K, h1⟩
    | true =>
      simp only at h1 ⊢
      rw [← xopP_congr hag.ev] at h1
      exact xopP_rel hc h1 fun v K' hr hk => ⟨⟨v, rfl⟩, hr, by rw [updO_comm _ _ _ _ _ hne] at hk; exact hk⟩
end Go.Proofs.Ytcpelionmmnogaa.Am
