/- An abstract machine for the walks: a region in one order stands for all. No condition. -/
import Derived.Test.YtcpelionmmnogaaAm19
namespace Go.Proofs.Ytcpelionmmnogaa.Am
open Go
set_option linter.unusedVariables false
set_option linter.unusedSimpArgs false

theorem updO_commO (f : Fr) (d dj : Option Nat) (v x : AV) (h : ∀ e, d = some e → dj ≠ some e) : updO (updO f d v) dj x = updO (updO f dj x) d v := by
  cases d with
  | none => rfl
  | some e => exact updO_comm f e dj v x (h e rfl)
theorem apart_agreeO {ops : Array Oper} {oj : Oper} {d : Option Nat} {r : AV} {f : Fr} (h : ∀ e, d = some e → e ∉ oj.looksAt ops) : Agree ops oj f (updO f d r) := by
  cases d with
  | none => exact fun t _ => rfl
  | some e => exact apart_agree (h e rfl)
section
variable {P : Program} {f : Fr} {K : KS}
theorem xbslice_mono {ns t len parts} {k k' : AV → KS → Prop} {l} (h : xbslice ns K t len parts k l) (hk : ∀ v K, k v K → k' v K) : xbslice ns K t len parts k' () := by
  unfold xbslice at h ⊢
  split at h
  · split at h
    · rename_i h0; rw [if_pos h0]
      split at h
      · exact hk _ _ h
      · exact h.elim
    · rename_i h0; rw [if_neg h0]
      split at h
      · rename_i h1; rw [if_pos h1]
        split at h
        · rename_i cs hf
          split at h
          · exact hk _ _ h
          · exact h.elim
        · exact h.elim
      · exact h.elim
  · exact h.elim
theorem xisnil_mono {op : BinOp} {x : AV} {k k' : AV → Prop} {l} (h : xisnil op x k l) (hk : ∀ v, k v → k' v) : xisnil op x k' () := by
  unfold xisnil at h ⊢
  split at h
  · exact ⟨fun e => hk _ (h.1 e), hk _ h.2⟩
  · exact ⟨fun e => hk _ (h.1 e), hk _ h.2⟩
  · exact h.elim
theorem xappend_mono {t b s x} {k k' : AV → KS → Prop} {l} (h : xappend K t b s x k l) (hk : ∀ v K, k v K → k' v K) : xappend K t b s x k' () := by
  unfold xappend at h ⊢
  split at h
  · split at h
    · rename_i rows' K1 hs
      split at h
      · split at h
        · rename_i n rows hj
          split at h
          · rename_i hn; rw [if_pos hn]; exact ⟨h.1, hk _ _ h.2⟩
          · exact h.elim
        · exact h.elim
      · exact ⟨h.1, hk _ _ h.2⟩
      · exact h.elim
    · exact h.elim
  · exact h.elim
theorem xopP_mono [Wd] {o : Op} {k k' : AV → KS → Prop} (h : xopP P o f K k ()) (hk : ∀ v K, k v K → k' v K) : xopP P o f K k' () := by
  by_cases hc : calm P o = true
  · exact xopP_rel hc h fun v K' _ => hk v K'
  · unfold xopP at h ⊢
    split at h
    · exact absurd rfl hc
    · unfold xop at h ⊢
      split at h
      all_goals try (exact absurd rfl hc)
      case h_7 => exact xbslice_mono h hk
      case h_10 =>
        split at h
        · rename_i hn
          rw [if_pos hn]
          split at h
          · rename_i ht; rw [if_pos ht]; exact xisnil_mono h fun v => hk v K
          · exact h.elim
        · rename_i hn; exact absurd (by simp [calm, pureOp, frameOp, hn]) hc
      case h_9 => exact xstoreX_mono h fun K' => hk _ K'
      case h_18 =>
        split at h
        · split at h
          · rename_i ht; rw [if_pos ht]; exact xappend_mono h hk
          · exact h.elim
        · exact h.elim
      case h_25 => exact h.elim
end
/-- What o leaves of the regions, if it is calm. -/
def RelW (P : Program) (o : Op) (K K' : KS) : Prop := calm P o = true → Rel P o K K'
/-- oj, behind oi or ahead of it. -/
theorem xone_swapO [Wd] {P : Program} {ops : Array Oper} {oi oj : Oper} {r : AV} {f : Fr} {K : KS} {c c' : Fr → KS → Prop} (hap : oi.apart ops oj = true)
    (h : xone P ops oj (updO f oi.dst r) K c) (hk : ∀ f' K', (∃ x, f' = updO f oj.dst x) → RelW P oj.op K K' → c (updO f' oi.dst r) K' → c' f' K') : xone P ops oj f K c' := by
  obtain ⟨a1, a2, a3⟩ := Oper.apart_spec hap
  have hag : Agree ops oj f (updO f oi.dst r) := apart_agreeO a1
  have h1 := xone_eq.1 h
  refine xone_eq.2 ?_
  rw [gd_agree hag] at h1
  cases hg : gd ops oj f with
  | none => rw [hg] at h1; exact h1.elim
  | some b =>
    rw [hg] at h1
    cases b with
    | false =>
      simp only at h1 ⊢
      rw [updO_commO _ _ _ _ _ a2] at h1
      exact hk _ _ ⟨_, rfl⟩ (fun hc => Rel.refl hc K) h1
    | true =>
      simp only at h1 ⊢
      rw [← xopP_congr hag.ev] at h1
      by_cases hc : calm P oj.op = true
      · exact xopP_rel hc h1 fun v K' hr hk' => hk _ _ ⟨v, rfl⟩ (fun _ => hr) (by rw [updO_commO _ _ _ _ _ a2] at hk'; exact hk')
      · exact xopP_mono h1 fun v K' hk' => hk _ _ ⟨v, rfl⟩ (fun h => absurd h hc) (by rw [updO_commO _ _ _ _ _ a2] at hk'; exact hk')

/-- oi, which is pure, may come ahead of oj. -/
def okPair (P : Program) (ops : Array Oper) (oi oj : Oper) : Bool := oi.apart ops oj && (frameOp oi.op || (calm P oj.op && (pureOp oj.op || growOp oj.op || (!isLoad oi.op && isStore P oj.op))))
theorem Shape.trans {K K1 K2 : KS} (h : Shape K K1) (h' : Shape K1 K2) : Shape K K2 := fun j e hj => by
  obtain ⟨e1, h1, h2, h3⟩ := h j e hj
  obtain ⟨e2, h4, h5, h6⟩ := h' j e1 h1
  exact ⟨e2, h4, h5.trans h2, h6.trans h3⟩
theorem stab_rel {P : Program} {ops : Array Oper} {oi oj : Oper} (h : okPair P ops oi oj = true) {K K' : KS} (hr : RelW P oj.op K K') : ∀ K'', Stab oi.op K' K'' → Stab oi.op K K'' := by
  intro K'' hs
  simp only [okPair, Bool.and_eq_true, Bool.or_eq_true, Bool.not_eq_true'] at h
  rcases h.2 with h2 | ⟨hc, h2⟩
  · exact .inl h2
  have hr := hr hc
  rcases hs with hs | hs | hs
  · exact .inl hs
  · rcases hr with ⟨_, rfl⟩ | ⟨_, hr⟩ | ⟨_, hr⟩
    · exact .inr (.inl hs)
    · exact .inr (.inl ⟨hs.1, hr.shape.trans hs.2⟩)
    · exact .inr (.inl ⟨hs.1, hr.trans hs.2⟩)
  · rcases hr with ⟨_, rfl⟩ | ⟨_, hr⟩ | ⟨hst, hr⟩
    · exact .inr (.inr hs)
    · exact .inr (.inr fun j e hj => hs j e (hr j e hj))
    · rcases h2 with (h2 | h2) | h2
      · exfalso; cases hx : oj.op <;> rw [hx] at h2 hst <;> first | (cases hst; done) | cases h2
      · exfalso; cases hx : oj.op <;> rw [hx] at h2 hst <;> first | (cases hst; done) | cases h2
      · exact .inr (.inl ⟨h2.1, hr.trans hs.shape⟩)

theorem XAny_first [Wd] {P : Program} {ops : Array Oper} {k : Fr → KS → Prop} {i : Nat} {oi : Oper} (hi : ops[i]? = some oi) {r : AV} {D : List Nat}
    (hD : ∀ j ∈ D, ∃ oj, ops[j]? = some oj ∧ ∃ e ∈ oj.after, Region.binds .any e = true ∧ (e.on = i ∨ e.on ∈ D)) :
    ∀ (fuel : Nat) (listed : Array Bool) (f : Fr) (K : KS),
      (∀ j oj, ops[j]? = some oj → j ≠ i → listed.getD j true = false → j ∉ D → okPair P ops oi oj = true) → (∀ j ∈ D, listed.getD j true = false) →
      i ∈ Region.ready .any ops listed → XV P ops oi r f K → XAny P ops k fuel (listed.setIfInBounds i true) (updO f oi.dst r) K → XAny P ops k (fuel + 1) listed f K := by
  have here : ∀ {fuel : Nat} {listed : Array Bool} {f : Fr} {K : KS}, XV P ops oi r f K → XAny P ops k fuel (listed.setIfInBounds i true) (updO f oi.dst r) K → xone P ops oi f K (fun f K => XAny P ops k fuel (listed.setIfInBounds i true) f K) :=
    fun hv H => hv _ _ _ (fun _ _ => rfl) (.inr (.inr (Keeps.refl _))) H
  intro fuel
  induction fuel with
  | zero =>
    intro listed f K _ _ hr hv H
    refine ⟨fun h => (by rw [h] at hr; cases hr), fun j hj o ho => ?_⟩
    by_cases hji : j = i
    · subst hji; rw [hi] at ho; injection ho with ho; subst ho; exact here hv H
    · have := ready_mono hj hji
      rw [H.1] at this
      cases this
  | succ fuel ih =>
    intro listed f K hfree hun hr hv H
    refine ⟨fun h => (by rw [h] at hr; cases hr), fun j hj oj hoj => ?_⟩
    by_cases hji : j = i
    · subst hji; rw [hi] at hoj; injection hoj with ho; subst ho; exact here hv H
    · have h1 := H.2 j (ready_mono hj hji) oj hoj
      obtain ⟨hjun, oj', hoj', hall⟩ := mem_ready.1 hj
      rw [hoj] at hoj'; injection hoj' with hoj'; subst hoj'
      have hnot : j ∉ D := fun hjD => by
        obtain ⟨oj', q1, e, q2, q3, q4⟩ := hD j hjD
        rw [hoj] at q1; injection q1 with q1; subst q1
        have h1 := hall e q2 q3
        have h0 : listed.getD e.on true = false := by
          rcases q4 with q4 | q4
          · rw [q4]; exact (mem_ready.1 hr).1
          · exact hun _ q4
        rcases Nat.lt_or_ge e.on listed.size with h' | h'
        · simp [h'] at h0 h1; rw [h0] at h1; cases h1
        · simp [Array.getElem?_eq_none h'] at h1
      have hok := hfree j oj hoj hji hjun hnot
      have hok' := hok
      simp only [okPair, Bool.and_eq_true] at hok'
      have hset : ∀ m, m ≠ j → (listed.setIfInBounds j true).getD m true = listed.getD m true := fun m hm => getD_set_ne true (Ne.symm hm)
      have hfree' : ∀ k ok, ops[k]? = some ok → k ≠ i → (listed.setIfInBounds j true).getD k true = false →
          k ∉ D → okPair P ops oi ok = true := fun k ok hk hki hun hno => by
        refine hfree k ok hk hki ?_ hno
        by_cases hjk : j = k
        · subst hjk; exact hjun
        · rw [hset k (Ne.symm hjk)] at hun; exact hun
      refine xone_swapO hok'.1 h1 fun f' K' ⟨x, hf'⟩ hrel h3 => ?_
      refine ih (listed.setIfInBounds j true) f' K' hfree' (fun m hm => ?_) (ready_mono hr (Ne.symm hji)) ?_ ?_
      · rw [hset m (fun h => hnot (h ▸ hm))]; exact hun m hm
      · refine hv.agree (fun t ht => ?_) (stab_rel hok hrel)
        rw [hf']
        obtain ⟨a1, a2, a3⟩ := Oper.apart_spec hok'.1
        cases hd : oj.dst with
        | none => rfl
        | some e =>
          have : t ≠ e := fun h' => by subst h'; exact a3 t hd ht
          simp [updO, up, this]
      · rw [Array.setIfInBounds_comm _ _ hji]
        exact h3
/-- What comes behind number i, by the edges. -/
def depStep (ops : Array Oper) (i : Nat) (D : List Nat) (j : Nat) : List Nat := match ops[j]? with
  | some oj => if (oj.after.any fun e => Region.binds .any e && (e.on == i || D.contains e.on)) = true then j :: D else D
  | none => D
def depsOf (ops : Array Oper) (i : Nat) : List Nat := (List.range ops.size).foldl (depStep ops i) []
theorem depsOf_spec {ops : Array Oper} {i : Nat} : ∀ j ∈ depsOf ops i, ∃ oj, ops[j]? = some oj ∧ ∃ e ∈ oj.after, Region.binds .any e = true ∧ (e.on = i ∨ e.on ∈ depsOf ops i) := by
  have key : ∀ (l D : List Nat), (∀ j ∈ D, ∃ oj, ops[j]? = some oj ∧ ∃ e ∈ oj.after, Region.binds .any e = true ∧ (e.on = i ∨ e.on ∈ D)) →
      ∀ j ∈ l.foldl (depStep ops i) D, ∃ oj, ops[j]? = some oj ∧ ∃ e ∈ oj.after, Region.binds .any e = true ∧ (e.on = i ∨ e.on ∈ l.foldl (depStep ops i) D) := by
    intro l
    induction l with
    | nil => intro D h; exact h
    | cons a l ih =>
      intro D h
      refine ih (depStep ops i D a) ?_
      unfold depStep
      split
      · rename_i oa hoa
        split
        · rename_i hany
          intro j hj
          rcases List.mem_cons.1 hj with hj | hj
          · subst hj
            obtain ⟨m, hm, he⟩ := Array.any_iff_exists.1 hany
            simp only [Bool.and_eq_true, Bool.or_eq_true, beq_iff_eq, List.contains_iff_mem] at he
            refine ⟨oa, hoa, oa.after[m], Array.getElem_mem _, he.2.2.1, ?_⟩
            rcases he.2.2.2 with h1 | h1
            · exact .inl h1
            · exact .inr (List.mem_cons_of_mem _ h1)
          · obtain ⟨oj, q1, e, q2, q3, q4⟩ := h j hj
            refine ⟨oj, q1, e, q2, q3, ?_⟩
            rcases q4 with q4 | q4
            · exact .inl q4
            · exact .inr (List.mem_cons_of_mem _ q4)
        · exact h
      · exact h
  exact key (List.range ops.size) [] (fun j hj => by cases hj)

section
variable {P : Program} {f : Fr} {K : KS}
theorem xone_mono [Wd] {ops : Array Oper} {o : Oper} {c c' : Fr → KS → Prop} (h : xone P ops o f K c) (hk : ∀ f K, c f K → c' f K) : xone P ops o f K c' := by
  have h1 := xone_eq.1 h
  refine xone_eq.2 ?_
  cases hg : gd ops o f with
  | none => rw [hg] at h1; exact h1.elim
  | some b =>
    rw [hg] at h1
    cases b with
    | false => exact hk _ _ h1
    | true => exact xopP_mono h1 fun v K' => hk _ _
end

/-- The operations one after the other; calls write nothing. -/
def xseq [Wd] (P : Program) (ops : Array Oper) : List Oper → Fr → KS → (Fr → KS → Prop) → Prop
  | [], f, K, k => k f K
  | o :: r, f, K, k => xone P ops o f K fun f K => xseq P ops r f K k
theorem xseq_mono [Wd] {P : Program} {ops : Array Oper} : ∀ {l : List Oper} {f : Fr} {K : KS} {k k' : Fr → KS → Prop}, xseq P ops l f K k → (∀ f K, k f K → k' f K) → xseq P ops l f K k'
  | [], f, K, k, k', h, hk => hk _ _ h
  | o :: r, f, K, k, k', h, hk => xone_mono h fun f K h => xseq_mono h hk
/-- Number i, which is pure, may come first. -/
def freeB (P : Program) (ops : Array Oper) (listed : Array Bool) (i : Nat) (oi : Oper) : Bool :=
  (depsOf ops i).all (fun j => !listed.getD j true) && (List.range ops.size).all fun j => j == i || listed.getD j true || (depsOf ops i).contains j || match ops[j]? with
    | some oj => okPair P ops oi oj
    | none => true
/-- The order is right for a region that draws its own. -/
def ordOK (P : Program) (ops : Array Oper) : List Nat → Array Bool → Bool
  | [], listed => (Region.ready .any ops listed).isEmpty
  | i :: r, listed => match ops[i]? with
    | some oi => (Region.ready .any ops listed).contains i && ((Region.ready .any ops listed) == [i] || (pureOp oi.op && freeB P ops listed i oi)) && ordOK P ops r (listed.setIfInBounds i true)
    | none => false
theorem freeB_spec {P : Program} {ops : Array Oper} {listed : Array Bool} {i : Nat} {oi : Oper} (h : freeB P ops listed i oi = true) :
    (∀ j oj, ops[j]? = some oj → j ≠ i → listed.getD j true = false → j ∉ depsOf ops i → okPair P ops oi oj = true) ∧ ∀ j ∈ depsOf ops i, listed.getD j true = false := by
  unfold freeB at h
  rw [Bool.and_eq_true, List.all_eq_true, List.all_eq_true] at h
  refine ⟨fun j oj hj hji hl hno => ?_, fun j hj => by simpa using h.1 j hj⟩
  have hlt : j < ops.size := by
    rcases Nat.lt_or_ge j ops.size with h' | h'
    · exact h'
    · rw [Array.getElem?_eq_none h'] at hj; cases hj
  have := h.2 j (List.mem_range.2 hlt)
  simp only [hj, Bool.or_eq_true, beq_iff_eq, List.contains_iff_mem] at this
  rcases this with ((h1 | h1) | h1) | h1
  · exact absurd h1 hji
  · rw [hl] at h1; cases h1
  · exact absurd h1 hno
  · exact h1
theorem ordOK_any [Wd] {P : Program} {ops : Array Oper} {k : Fr → KS → Prop} : ∀ (is : List Nat) (listed : Array Bool) (fuel : Nat) (f : Fr) (K : KS), ordOK P ops is listed = true → is.length ≤ fuel →
    xseq P ops (is.filterMap (ops[·]?)) f K k → XAny P ops k fuel listed f K
  | [], listed, fuel, f, K, ho, _, h => by
    have hr : Region.ready .any ops listed = [] := by simpa [ordOK] using ho
    cases fuel with
    | zero => exact ⟨hr, h⟩
    | succ fuel => exact ⟨fun _ => h, fun i hi => by rw [hr] at hi; cases hi⟩
  | i :: is, listed, 0, f, K, ho, hl, h => by simp at hl
  | i :: is, listed, fuel + 1, f, K, ho, hl, h => by
    unfold ordOK at ho
    split at ho
    · rename_i oi hi
      simp only [Bool.and_eq_true, Bool.or_eq_true, beq_iff_eq] at ho
      obtain ⟨⟨h1, h2⟩, h3⟩ := ho
      have hmem : i ∈ Region.ready .any ops listed := by simpa using h1
      have hfm : (i :: is).filterMap (ops[·]?) = oi :: is.filterMap (ops[·]?) := by simp [hi]
      rw [hfm] at h
      have h' : xone P ops oi f K fun f K => XAny P ops k fuel (listed.setIfInBounds i true) f K := xone_mono h fun f K h => ordOK_any is _ fuel f K h3 (by simpa using hl) h
      rcases h2 with h2 | h2
      · refine ⟨fun h0 => (by rw [h0] at hmem; cases hmem), fun j hj o ho => ?_⟩
        rw [h2] at hj
        simp only [List.mem_singleton] at hj
        subst hj
        rw [hi] at ho; injection ho with ho; subst ho
        exact h'
      · obtain ⟨r, hr1, hr2⟩ := xone_pure h2.1 h'
        exact XAny_first hi depsOf_spec fuel listed f K (freeB_spec h2.2).1 (freeB_spec h2.2).2 hmem hr2 hr1
    · cases ho
/-- Orders of a drawn region, as a tree: at each place one operation, or each of some. -/
inductive OT where
  | done
  | one (i : Nat) (t : OT)
  | alt (a b : OT)
def OT.depth : OT → Nat
  | .done => 0
  | .one _ t => t.depth + 1
  | .alt a b => max a.depth b.depth
def OT.heads : OT → List Nat
  | .done => []
  | .one i _ => [i]
  | .alt a b => a.heads ++ b.heads
def xtree [Wd] (P : Program) (ops : Array Oper) : OT → Fr → KS → (Fr → KS → Prop) → Prop
  | .done, f, K, k => k f K
  | .one i t, f, K, k => match ops[i]? with
    | some oi => xone P ops oi f K fun f K => xtree P ops t f K k
    | none => False
  | .alt a b, f, K, k => xtree P ops a f K k ∧ xtree P ops b f K k
/-- The tree covers every order (br: a branch of what is ready). -/
def otOK (P : Program) (ops : Array Oper) : OT → Bool → Array Bool → Bool
  | .done, br, listed => !br && (Region.ready .any ops listed).isEmpty
  | .one i t, br, listed => match ops[i]? with
    | some oi => (br || ((Region.ready .any ops listed).contains i && ((Region.ready .any ops listed) == [i] || (pureOp oi.op && freeB P ops listed i oi)))) && otOK P ops t false (listed.setIfInBounds i true)
    | none => false
  | .alt a b, br, listed => (br || (!(Region.ready .any ops listed).isEmpty && (Region.ready .any ops listed).all fun i => (a.heads ++ b.heads).contains i)) && (otOK P ops a true listed && otOK P ops b true listed)
theorem xtree_head [Wd] {P : Program} {ops : Array Oper} {k : Fr → KS → Prop} {i : Nat} {listed : Array Bool} {f : Fr} {K : KS} : ∀ {t : OT}, otOK P ops t true listed = true → i ∈ t.heads → xtree P ops t f K k →
    ∃ oi t', ops[i]? = some oi ∧ xone P ops oi f K (fun f K => xtree P ops t' f K k) ∧ otOK P ops t' false (listed.setIfInBounds i true) = true ∧ t'.depth + 1 ≤ t.depth
  | .done, _, hi, _ => by cases hi
  | .one j t, ho, hi, h => by
    simp only [OT.heads, List.mem_singleton] at hi
    subst hi
    unfold otOK at ho
    unfold xtree at h
    split at ho
    · rename_i oi hoi
      simp only [hoi] at h
      simp only [Bool.true_or, Bool.true_and] at ho
      exact ⟨oi, t, hoi, h, ho, Nat.le_refl _⟩
    · cases ho
  | .alt a b, ho, hi, h => by
    unfold otOK at ho
    simp only [Bool.true_or, Bool.true_and, Bool.and_eq_true] at ho
    simp only [OT.heads, List.mem_append] at hi
    rcases hi with hi | hi
    · obtain ⟨oi, t', h1, h2, h3, h4⟩ := xtree_head ho.1 hi h.1
      exact ⟨oi, t', h1, h2, h3, Nat.le_trans h4 (Nat.le_max_left _ _)⟩
    · obtain ⟨oi, t', h1, h2, h3, h4⟩ := xtree_head ho.2 hi h.2
      exact ⟨oi, t', h1, h2, h3, Nat.le_trans h4 (Nat.le_max_right _ _)⟩
theorem otOK_any [Wd] {P : Program} {ops : Array Oper} {k : Fr → KS → Prop} : ∀ (fuel : Nat) (t : OT) (listed : Array Bool) (f : Fr) (K : KS), otOK P ops t false listed = true → t.depth ≤ fuel →
    xtree P ops t f K k → XAny P ops k fuel listed f K := by
  have go : ∀ (fuel : Nat), (∀ (t : OT) (listed : Array Bool) (f : Fr) (K : KS), otOK P ops t false listed = true → t.depth ≤ fuel → xtree P ops t f K k → XAny P ops k fuel listed f K) →
      ∀ (t : OT) (listed : Array Bool) (f : Fr) (K : KS), otOK P ops t false listed = true → t.depth ≤ fuel + 1 → xtree P ops t f K k → XAny P ops k (fuel + 1) listed f K := by
    intro fuel ih t listed f K ho hd h
    cases t with
    | done =>
      have hr : Region.ready .any ops listed = [] := by simpa [otOK] using ho
      exact ⟨fun _ => h, fun i hi => by rw [hr] at hi; cases hi⟩
    | one i t =>
      unfold otOK at ho
      unfold xtree at h
      split at ho
      · rename_i oi hi
        simp only [hi] at h
        simp only [Bool.false_or, Bool.and_eq_true, Bool.or_eq_true, beq_iff_eq] at ho
        obtain ⟨⟨h1, h2⟩, h3⟩ := ho
        have hmem : i ∈ Region.ready .any ops listed := by simpa using h1
        have h' : xone P ops oi f K fun f K => XAny P ops k fuel (listed.setIfInBounds i true) f K := xone_mono h fun f K h => ih t _ f K h3 (by simp only [OT.depth] at hd; omega) h
        rcases h2 with h2 | h2
        · refine ⟨fun h0 => (by rw [h0] at hmem; cases hmem), fun j hj o ho => ?_⟩
          rw [h2] at hj
          simp only [List.mem_singleton] at hj
          subst hj
          rw [hi] at ho; injection ho with ho; subst ho
          exact h'
        · obtain ⟨r, hr1, hr2⟩ := xone_pure h2.1 h'
          exact XAny_first hi depsOf_spec fuel listed f K (freeB_spec h2.2).1 (freeB_spec h2.2).2 hmem hr2 hr1
      · cases ho
    | alt a b =>
      have ho' := ho
      unfold otOK at ho
      simp only [Bool.false_or, Bool.and_eq_true, Bool.not_eq_true'] at ho
      obtain ⟨⟨h1, h2⟩, h3, h4⟩ := ho
      refine ⟨fun h0 => (by rw [h0] at h1; cases h1), fun j hj o hoj => ?_⟩
      rw [List.all_eq_true] at h2
      have hm : j ∈ (OT.alt a b).heads := by simpa [OT.heads] using h2 j hj
      have ht : otOK P ops (.alt a b) true listed = true := by unfold otOK; simp [h3, h4]
      obtain ⟨oi, t', q1, q2, q3, q4⟩ := xtree_head ht hm h
      rw [hoj] at q1; injection q1 with q1; subst q1
      exact xone_mono q2 fun f K hx => ih t' _ f K q3 (by omega) hx
  intro fuel
  induction fuel with
  | zero =>
    intro t listed f K ho hd h
    cases t with
    | done =>
      have hr : Region.ready .any ops listed = [] := by simpa [otOK] using ho
      exact ⟨hr, h⟩
    | one i t => simp [OT.depth] at hd
    | alt a b =>
      exfalso
      unfold otOK at ho
      simp only [Bool.false_or, Bool.and_eq_true, Bool.not_eq_true'] at ho
      obtain ⟨⟨h1, h2⟩, h3, h4⟩ := ho
      cases hr : Region.ready .any ops listed with
      | nil => rw [hr] at h1; cases h1
      | cons j js =>
        rw [hr, List.all_eq_true] at h2
        have hm : j ∈ (OT.alt a b).heads := by simpa [OT.heads] using h2 j (by simp)
        have ht : otOK P ops (.alt a b) true listed = true := by unfold otOK; simp [h3, h4]
        obtain ⟨oi, t', q1, q2, q3, q4⟩ := xtree_head ht hm h
        omega
  | succ fuel ih => exact go fuel ih
end Go.Proofs.Ytcpelionmmnogaa.Am
