/- An abstract machine for the walks: what operations hand on. No condition. -/
import Derived.Test.YtcpelionmmnogaaAm15
namespace Go.Proofs.Ytcpelionmmnogaa.Am
open Go
set_option linter.unusedVariables false
set_option linter.unusedSimpArgs false

theorem Keeps.refl (K : KS) : Keeps K K := fun _ _ h => h
theorem Keeps.app (K L : KS) : Keeps K (K ++ L) := fun j e h => by rw [kg_app, if_pos (kg_lt h)]; exact h
theorem Shape.refl (K : KS) : Shape K K := (Keeps.refl K).shape

/-- An operation where a call's callee writes nothing. -/
def xopP [Wd] (P : Program) (o : Op) (f : Fr) (K : KS) (k : AV → KS → Prop) (_ : Lk (o, f, k)) : Prop :=
  match o with
  | .call { callee := .value x, args, .. } => xwho (ev f x) (fun g caps => xcallP P g K (args.toList.map (ev f) ++ caps) k ()) ()
  | o => xop P o f K k ()
theorem xopP_xop [Wd] {P : Program} {o : Op} {f : Fr} {K : KS} {k : AV → KS → Prop} (h : xopP P o f K k ()) : xop P o f K k () := by
  unfold xopP at h
  split at h
  · rename_i x args _
    show xwho (ev f x) (fun g caps => xcall P g K (args.toList.map (ev f) ++ caps) k ()) ()
    unfold xwho at h ⊢
    split at h
    · exact .inl h
    · exact h.elim
  · exact h
theorem xopP_grow [Wd] {P : Program} {o : Op} {f : Fr} {K : KS} {k k' : AV → KS → Prop} (hg : growOp o = true) (h : xopP P o f K k ()) (hk : ∀ v K', Keeps K K' → k v K' → k' v K') : xopP P o f K k' () := by
  unfold xopP at h ⊢
  split at h
  · unfold xwho at *
    split at h
    · obtain ⟨R, h1, h2⟩ := h
      exact ⟨R, h1, fun x hx => hk _ _ (Keeps.app _ _) (h2 x hx)⟩
    · exact h.elim
  · unfold xop at h ⊢
    split at h
    all_goals try (cases hg; done)
    case h_4 =>
      unfold xalloc at *
      split at h
      · exact hk _ _ (Keeps.app _ _) h
      · exact h.elim
    case h_5 =>
      unfold xbox at *
      split at h
      · split at h
        · rename_i hc; rw [if_pos hc]; exact hk _ _ (Keeps.app _ _) h
        · exact h.elim
      · split at h
        · rename_i hc; rw [if_pos hc]; exact hk _ _ (Keeps.app _ _) h
        · exact h.elim
    case h_21 => rename_i hn; exact (hn _ _ _ rfl).elim
    case h_22 =>
      unfold xmake at *
      split at h
      · split at h
        · rename_i hc; rw [if_pos hc]; exact ⟨h.1, hk _ _ (Keeps.app _ _) h.2⟩
        · exact h.elim
      · exact h.elim
    case h_25 => exact h.elim
theorem shape_set {K : KS} {j : Nat} {e e' : Ent} (hj : kg K j = some e) (hn : e'.n = e.n) (hl : e'.rows.length = e.rows.length) : Shape K (K.set j (some e')) := fun i e0 hi => by
  rw [kg_set _ _ _ _ (kg_lt hj)]
  by_cases h : i = j
  · subst h
    rw [hj] at hi; injection hi with hi; subst hi
    exact ⟨e', by simp, hn, hl⟩
  · exact ⟨e0, by rw [if_neg h]; exact hi, rfl, rfl⟩
theorem xput_mono {cs : List AV} {o : Nat} {t : TK} {v : AV} {ok : AV → Bool} {k k' : List AV → Prop} {l} (h : xput cs o t v ok k l) (hk : ∀ ds, ds.length = cs.length → k ds → k' ds) : xput cs o t v ok k' () := by
  unfold xput at h ⊢
  split at h
  · split at h
    · rename_i hc; rw [if_pos hc]; exact hk _ (by simp [putCells]; omega) h
    · exact h.elim
  · split at h
    · rename_i hc; rw [if_pos hc]; exact hk _ (by simp) h
    · exact h.elim
  · exact h.elim
theorem xstore_shape {K : KS} {t : TK} {p v : AV} {k k' : KS → Prop} {l} (h : xstore K t p v k l) (hk : ∀ K', Shape K K' → k K' → k' K') : xstore K t p v k' () := by
  unfold xstore at h ⊢
  split at h
  · split at h
    · rename_i cs hj
      split at h
      · rename_i hi
        rw [if_pos hi]
        exact xput_mono h fun ds hd h => hk _ (shape_set hj hd (by simp [Ent.rows])) h
      · exact h.elim
    · rename_i n rows hj
      split at h
      · rename_i hi
        rw [if_pos hi]
        exact xput_mono h fun ds hd h => hk _ (shape_set hj rfl (by simp [Ent.rows])) h
      · exact h.elim
    · exact h.elim
  · exact h.elim
theorem absorb_flat_mono {K : KS} {t : TK} {j i o n : Nat} {rows : List (List AV)} {v : AV} {k k' : KS → Prop} {l} {ns : List Nat} (h : xstoreA ns K t j i o n rows v k l) (hk : ∀ K', k K' → k' K') : xstoreA ns K t j i o n rows v k' () := by
  unfold xstoreA at h ⊢
  split at h
  · rename_i hi
    rw [if_pos hi]
    split at h
    · split at h
      · rename_i hc; rw [if_pos hc]; exact hk _ h
      · exact h.elim
    · exact h.elim
  · exact h.elim
theorem xstoreX_shape {K : KS} {t : TK} {p v : AV} {k k' : KS → Prop} {l} {ns : List Nat} (h : xstoreX true ns K t p v k l) (hk : ∀ K', Shape K K' → k K' → k' K') : xstoreX true ns K t p v k' () := by
  unfold xstoreX at h ⊢
  split at h
  · split at h
    · split at h
      · rename_i hc; rw [if_pos hc]; exact xstore_shape h hk
      · split at h
        · rename_i hf; cases hf
        · exact h.elim
    · exact xstore_shape h hk
  · exact h.elim
theorem xstoreX_mono {fl : Bool} {K : KS} {t : TK} {p v : AV} {k k' : KS → Prop} {l} {ns : List Nat} (h : xstoreX fl ns K t p v k l) (hk : ∀ K', k K' → k' K') : xstoreX fl ns K t p v k' () := by
  unfold xstoreX at h ⊢
  split at h
  · split at h
    · split at h
      · rename_i hc; rw [if_pos hc]; exact xstore_shape h fun K' _ => hk K'
      · rename_i hc
        rw [if_neg hc]
        split at h
        · rename_i hf; rw [if_pos hf]; exact absorb_flat_mono h hk
        · exact h.elim
    · exact xstore_shape h fun K' _ => hk K'
  · exact h.elim
end Go.Proofs.Ytcpelionmmnogaa.Am
