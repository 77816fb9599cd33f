/- An abstract machine for the walks: the value of a pure operation is the same later. No condition. -/
import Derived.Test.YtcpelionmmnogaaAm14
namespace Go.Proofs.Ytcpelionmmnogaa.Am
open Go
set_option linter.unusedVariables false
set_option linter.unusedSimpArgs false

/-- What looks at the frame alone. -/
def frameOp : Op → Bool
  | .binOp _ _ _ y _ => !isNilC y
  | .move _ | .assign _ | .pick _ _ _ | .unOp _ _ _ | .slice _ _ _ _ none | .index _ _ _ | .makeFunc _ _ _ | .extract _ _ => true
  | .call { callee := .builtin .min, .. } | .call { callee := .builtin .max, .. } => true
  | _ => false
def isLoad : Op → Bool
  | .load _ _ | .convert _ _ _ => true
  | _ => false
/-- .. and at the regions' shapes, and what stands in them. -/
def pureOp : Op → Bool
  | .build _ _ | .load _ _ | .convert _ _ _ | .fieldAddr _ _ _ | .indexAddr _ _ _ => true
  | .call { callee := .builtin .len, .. } => true
  | o => frameOp o
def growOp : Op → Bool
  | .alloc _ | .box _ _ | .makeSlice _ _ _ => true
  | .call { callee := .value _, .. } => true
  | _ => false
def isStore (P : Program) : Op → Bool
  | .store t _ _ => flT P t
  | _ => false
def Keeps (K K' : KS) : Prop := ∀ j e, kg K j = some e → kg K' j = some e
def Shape (K K' : KS) : Prop := ∀ j e, kg K j = some e → ∃ e', kg K' j = some e' ∧ e'.n = e.n ∧ e'.rows.length = e.rows.length
theorem Keeps.shape {K K' : KS} (h : Keeps K K') : Shape K K' := fun j e hj => ⟨e, h j e hj, rfl, rfl⟩
def Stab (o : Op) (K K' : KS) : Prop := frameOp o = true ∨ (isLoad o = false ∧ Shape K K') ∨ Keeps K K'

section
variable {k : AV → Prop}
theorem xeqA_pure {te : Option (List CK)} {xs ys : List AV} {k : Bool → Prop} {l} (h : xeqA te xs ys k l) : ∃ b, k b ∧ ∀ k' : Bool → Prop, k' b → xeqA te xs ys k' () := by
  unfold xeqA at h ⊢
  split at h
  · split at h
    · exact ⟨_, h, fun k' hk => hk⟩
    · exact h.elim
  · exact h.elim
theorem xslc_pure {t x lo hi l} (h : xslc t x lo hi k l) : ∃ v, k v ∧ ∀ k' : AV → Prop, k' v → xslc t x lo hi k' () := by
  unfold xslc at h ⊢
  split at h
  · split at h
    · rename_i hm
      split at h
      · exact ⟨_, h.2, fun k' hk => by rw [if_pos hm]; exact ⟨h.1, hk⟩⟩
      · exact h.elim
    · exact h.elim
  · split at h
    · exact ⟨_, h.2, fun k' hk => ⟨h.1, hk⟩⟩
    · exact h.elim
  · exact h.elim
theorem xsix_pure {t x i l} (h : xsix t x i k l) : ∃ v, k v ∧ ∀ k' : AV → Prop, k' v → xsix t x i k' () := by
  unfold xsix at h ⊢
  split at h
  · exact ⟨_, h.2, fun k' hk => ⟨h.1, hk⟩⟩
  · exact h.elim
theorem xbin_pure {te op x y l} (h : xbin te op x y k l) : ∃ v, k v ∧ ∀ k' : AV → Prop, k' v → xbin te op x y k' () := by
  unfold xbin at h ⊢
  split at h
  · split at h
    · obtain ⟨b, h1, h2⟩ := xeqA_pure h
      exact ⟨_, h1, fun k' hk => h2 _ hk⟩
    · obtain ⟨b, h1, h2⟩ := xeqA_pure h
      exact ⟨_, h1, fun k' hk => h2 _ hk⟩
    · exact h.elim
  · split at h <;> first
        | exact ⟨_, h, fun k' hk => hk⟩
        | exact h.elim
  · split at h
    · rename_i he
      subst he
      simp only [if_true]
      split at h <;> first
        | exact ⟨_, h, fun k' hk => hk⟩
        | exact ⟨_, h.2, fun k' hk => ⟨h.1, hk⟩⟩
        | exact h.elim
    · exact h.elim
  · split at h <;> first
        | exact ⟨_, h, fun k' hk => hk⟩
        | exact ⟨_, h.2, fun k' hk => ⟨h.1, hk⟩⟩
        | exact h.elim
  · exact h.elim
theorem xun_pure {op x l} (h : xun op x k l) : ∃ v, k v ∧ ∀ k' : AV → Prop, k' v → xun op x k' () := by
  unfold xun at h ⊢
  split at h <;> first
        | exact ⟨_, h, fun k' hk => hk⟩
        | exact h.elim
theorem xpick_pure {c x y l} (h : xpick c x y k l) : ∃ v, k v ∧ ∀ k' : AV → Prop, k' v → xpick c x y k' () := by
  unfold xpick at h ⊢
  split at h <;> first
        | exact ⟨_, h, fun k' hk => hk⟩
        | exact h.elim
theorem xtup_pure {x i l} (h : xtup x i k l) : ∃ v, k v ∧ ∀ k' : AV → Prop, k' v → xtup x i k' () := by
  unfold xtup at h ⊢
  split at h
  · split at h
    · exact ⟨_, h, fun k' hk => hk⟩
    · exact h.elim
  · exact h.elim
theorem xmin_pure {x y l} (h : xmin x y k l) : ∃ v, k v ∧ ∀ k' : AV → Prop, k' v → xmin x y k' () := by
  unfold xmin at h ⊢
  split at h <;> first
        | exact ⟨_, h, fun k' hk => hk⟩
        | exact h.elim
theorem xmax_pure {x y l} (h : xmax x y k l) : ∃ v, k v ∧ ∀ k' : AV → Prop, k' v → xmax x y k' () := by
  unfold xmax at h ⊢
  split at h <;> first
        | exact ⟨_, h, fun k' hk => hk⟩
        | exact h.elim
theorem xconv_pure {t x l} (h : xconv t x k l) : ∃ v, k v ∧ ∀ k' : AV → Prop, k' v → xconv t x k' () := by
  unfold xconv at h ⊢
  split at h <;> first
        | exact ⟨_, h, fun k' hk => hk⟩
        | exact h.elim
variable {K : KS}
theorem xbstr_pure {t x l} (h : xbstr K t x k l) : ∃ v, k v ∧ ∀ (K' : KS) (k' : AV → Prop), Keeps K K' → k' v → xbstr K' t x k' () := by
  unfold xbstr at h
  split at h
  · split at h
    · rename_i h1
      split at h
      · rename_i h2
        refine ⟨_, h, fun K' k' hs hk => ?_⟩
        unfold xbstr
        simp only [hs _ _ h1, h2]
        exact hk
      · exact h.elim
    · exact h.elim
  · exact h.elim
theorem xadd_pure {x o l} (h : xadd K x o k l) : ∃ v, k v ∧ ∀ (K' : KS) (k' : AV → Prop), Shape K K' → k' v → xadd K' x o k' () := by
  unfold xadd at h ⊢
  split at h
  · split at h
    · rename_i e he
      refine ⟨_, h, fun K' k' hs hk => ?_⟩
      obtain ⟨e', h1, _⟩ := hs _ _ he
      simp only [h1]; exact hk
    · exact h.elim
  · exact ⟨_, h, fun K' k' hs hk => hk⟩
  · exact h.elim
theorem xlen_pure {t x l} (h : xlen K t x k l) : ∃ v, k v ∧ ∀ (K' : KS) (k' : AV → Prop), Shape K K' → k' v → xlen K' t x k' () := by
  unfold xlen at h ⊢
  split at h
  · exact ⟨_, h, fun K' k' hs hk => hk⟩
  · exact ⟨_, h, fun K' k' hs hk => hk⟩
  · split at h
    · rename_i e he
      refine ⟨_, h, fun K' k' hs hk => ?_⟩
      obtain ⟨e', h1, _, h2⟩ := hs _ _ he
      simp only [h1, h2]; exact hk
    · exact h.elim
  · exact ⟨_, h, fun K' k' hs hk => hk⟩
  · exact ⟨_, h, fun K' k' hs hk => hk⟩
  · exact h.elim
theorem xidx_pure {t x i l} (h : xidx K t x i k l) : ∃ v, k v ∧ ∀ (K' : KS) (k' : AV → Prop), Shape K K' → k' v → xidx K' t x i k' () := by
  unfold xidx at h ⊢
  split at h
  · split at h
    · rename_i hm; exact ⟨_, h.2, fun K' k' hs hk => by rw [if_pos hm]; exact ⟨h.1, hk⟩⟩
    · exact h.elim
  · split at h
    · rename_i e he
      split at h
      · rename_i hm
        refine ⟨_, h.2, fun K' k' hs hk => ?_⟩
        obtain ⟨e', h1, h2, h3⟩ := hs _ _ he
        simp only [h1, h2, h3]
        rw [if_pos hm]; exact ⟨h.1, hk⟩
      · exact h.elim
    · exact h.elim
  · split at h
    · rename_i e he
      refine ⟨_, h.2, fun K' k' hs hk => ?_⟩
      obtain ⟨e', h1, h2, h3⟩ := hs _ _ he
      simp only [h1]; exact ⟨h.1, hk⟩
    · exact h.elim
  · exact h.elim
theorem cellsAt_keeps {K' : KS} {x : AV} (h : Keeps K K') (hne : cellsAt K x ≠ []) : cellsAt K' x = cellsAt K x := by
  unfold cellsAt at hne ⊢
  split at hne
  · split at hne
    · rename_i hj; simp only [h _ _ hj, hj]
    · rename_i hj; simp only [h _ _ hj, hj]
    · exact absurd rfl hne
  · rfl
  · rfl
theorem xload_pure {t x l} (h : xload t (cellsAt K x) k l) : ∃ v, k v ∧ ∀ (K' : KS) (k' : AV → Prop), Keeps K K' → k' v → xload t (cellsAt K' x) k' () := by
  have hne : cellsAt K x ≠ [] := by
    intro h0
    rw [h0] at h
    unfold xload at h
    split at h
    · exact h
    · split at h
      · rename_i hm; simp at hm; omega
      · exact h
    · exact h
  have key : ∃ v, k v ∧ ∀ (k' : AV → Prop), k' v → xload t (cellsAt K x) k' () := by
    unfold xload at h ⊢
    split at h
    · split at h
      · rename_i hc; exact ⟨_, h, fun k' hk => hk⟩
      · exact h.elim
    · split at h
      · rename_i hm; exact ⟨_, h, fun k' hk => by rw [if_pos hm]; exact hk⟩
      · exact h.elim
    · exact h.elim
  obtain ⟨v, h1, h2⟩ := key
  exact ⟨v, h1, fun K' k' hs hk => by rw [cellsAt_keeps hs hne]; exact h2 k' hk⟩
theorem acells_shape {K' : KS} {v : AV} {cs : List AV} (hs : Shape K K') (h : acells K v = some cs) : acells K' v = some cs := by
  unfold acells at h ⊢
  split at h
  · exact h
  · split at h
    · rename_i hc
      have : cellK K' v = true := by
        unfold cellK at hc ⊢
        split at hc <;> first
          | rfl
          | (obtain ⟨e, he⟩ := Option.isSome_iff_exists.1 hc; obtain ⟨e', h1, _⟩ := hs _ _ he; simp [h1]; done)
          | cases hc
      rw [if_pos this]; exact h
    · cases h
theorem xfill_shape {K' : KS} {place : Nat → Option (Nat × Nat)} (hs : Shape K K') : ∀ {parts : List (Nat × AV)} {cs out : List AV}, xfill K place cs parts = some out → xfill K' place cs parts = some out
  | [], cs, out, h => h
  | (i, v) :: parts, cs, out, h => by
    unfold xfill at h ⊢
    split at h
    · rename_i o m ds ho hd
      rw [ho, acells_shape hs hd]
      simp only
      split at h
      · rename_i hc; rw [if_pos hc]; exact xfill_shape hs h
      · cases h
    · cases h
theorem xbuild_pure {t parts l} (h : xbuild K t parts k l) : ∃ v, k v ∧ ∀ (K' : KS) (k' : AV → Prop), Shape K K' → k' v → xbuild K' t parts k' () := by
  unfold xbuild at h ⊢
  split at h
  · split at h
    · rename_i cs hc; exact ⟨_, h, fun K' k' hs hk => by simp only [xfill_shape hs hc]; exact hk⟩
    · exact h.elim
  · split at h
    · rename_i cs hc; exact ⟨_, h, fun K' k' hs hk => by simp only [xfill_shape hs hc]; exact hk⟩
    · exact h.elim
  · exact h.elim
end
theorem xop_pure [Wd] {P : Program} {o : Op} {f : Fr} {K : KS} {k : AV → KS → Prop} (hp : pureOp o = true) (h : xop P o f K k ()) :
    ∃ v, k v K ∧ ∀ (K' : KS) (k' : AV → KS → Prop), Stab o K K' → k' v K' → xop P o f K' k' () := by
  have fr : ∀ {step : (AV → Prop) → Prop}, (∃ v, k v K ∧ ∀ k' : AV → Prop, k' v → step k') → ∃ v, k v K ∧ ∀ (K' : KS) (k' : AV → KS → Prop), Stab o K K' → k' v K' → step (fun v => k' v K') :=
    fun ⟨v, h1, h2⟩ => ⟨v, h1, fun K' k' _ hk => h2 _ hk⟩
  have sh : ∀ {step : KS → (AV → Prop) → Prop}, frameOp o = false → (∃ v, k v K ∧ ∀ (K' : KS) (k' : AV → Prop), Shape K K' → k' v → step K' k') → ∃ v, k v K ∧ ∀ (K' : KS) (k' : AV → KS → Prop), Stab o K K' → k' v K' → step K' (fun v => k' v K') :=
    fun hf ⟨v, h1, h2⟩ => ⟨v, h1, fun K' k' hs hk => h2 _ _ (by
      rcases hs with hs | hs | hs
      · rw [hf] at hs; cases hs
      · exact hs.2
      · exact hs.shape) hk⟩
  unfold xop at h ⊢
  split at h
  case h_1 => exact ⟨_, h, fun K' k' _ hk => hk⟩
  case h_2 => exact ⟨_, h, fun K' k' _ hk => hk⟩
  case h_3 => exact fr (xpick_pure h)
  case h_6 => exact sh rfl (xbuild_pure h)
  case h_8 =>
    obtain ⟨v, h1, h2⟩ := xload_pure h
    refine ⟨v, h1, fun K' k' hs hk => h2 K' _ ?_ hk⟩
    rcases hs with hs | hs | hs
    · cases hs
    · cases hs.1
    · exact hs
  case h_10 op t x y s =>
    have hy : isNilC y = false := by simpa [pureOp, frameOp] using hp
    simp only [hy, Bool.false_eq_true, if_false] at h ⊢
    exact fr (xbin_pure h)
  case h_11 => exact fr (xun_pure h)
  case h_12 =>
    split at h
    · rename_i hb
      obtain ⟨v, h1, h2⟩ := xbstr_pure h
      refine ⟨v, h1, fun K' k' hs hk => ?_⟩
      rw [if_pos hb]
      refine h2 K' _ ?_ hk
      rcases hs with hs | hs | hs
      · cases hs
      · cases hs.1
      · exact hs
    · rename_i hb
      split at h
      · rename_i hc
        obtain ⟨v, h1, h2⟩ := xconv_pure h
        exact ⟨v, h1, fun K' k' _ hk => by rw [if_neg hb, if_pos hc]; exact h2 _ hk⟩
      · exact h.elim
  case h_13 =>
    split at h
    · rename_i hc; exact ⟨_, h, fun K' k' _ hk => by rw [if_pos hc]; exact hk⟩
    · exact h.elim
  case h_14 => exact sh rfl (xadd_pure h)
  case h_15 => exact sh rfl (xidx_pure h)
  case h_16 => exact fr (xtup_pure h)
  case h_17 =>
    split at h
    · exact sh rfl (xlen_pure h)
    · exact h.elim
  case h_19 =>
    split at h
    · exact fr (xmin_pure h)
    · exact h.elim
  case h_20 =>
    split at h
    · exact fr (xmax_pure h)
    · exact h.elim
  case h_23 => exact fr (xslc_pure h)
  case h_24 => exact fr (xsix_pure h)
  case h_25 => exact h.elim
  all_goals cases hp
end Go.Proofs.Ytcpelionmmnogaa.Am
