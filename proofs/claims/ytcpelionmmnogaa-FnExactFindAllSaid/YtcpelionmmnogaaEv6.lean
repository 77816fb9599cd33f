/- An evaluator over the abstract machine's values: what it tells of a call is so. Conditions: a check of the program's form, by the kernel. -/
import Derived.Test.YtcpelionmmnogaaEv5
namespace Go.Proofs.Ytcpelionmmnogaa.Am
open Go
set_option linter.unusedVariables false
set_option linter.unusedSimpArgs false

def inJ (s lo hi : Nat) (t : Nat) : Bool := t == s || (Nat.ble lo t && Nat.blt t hi)
def jOK (a : Ann) (id : Nat) (l : List Oper) : Bool := match lk a.jn id with
  | none => true
  | some (s, lo, hi) => l.all (calmB (inJ s lo hi))
def ordOf (ops : Array Oper) : Option (List Nat) → List Nat
  | none => List.range ops.size
  | some is => is
/-- The told facts fit the code. -/
def cOK (P : Program) (m : Nat) (a : Ann) : Code → Bool
  | .region id ops draw => ops.toList.all (dstOK m) && (match draw with
    | false => jOK a id ops.toList
    | true => match lk a.ot id with
      | some t => otOK P ops t false (Array.replicate ops.size false) && Nat.ble t.depth ops.size
      | none => ordOK P ops (ordOf ops (lk a.ord id)) (Array.replicate ops.size false) && Nat.ble (ordOf ops (lk a.ord id)).length ops.size && jOK a id (oord ops (lk a.ord id)))
  | .seq x y => cOK P m a x && cOK P m a y
  | .cond _ x y => cOK P m a x && cOK P m a y
  | .block _ c => cOK P m a c
  | .loop c => cOK P m a c
  | _ => true
def loopsOf : Code → List Code
  | .seq x y => loopsOf x ++ loopsOf y
  | .cond _ x y => loopsOf x ++ loopsOf y
  | .block _ c => loopsOf c
  | .loop c => c :: loopsOf c
  | _ => []
def fOK (P : Program) (g : FuncId) (a : Ann) : Bool := match P.funcs[g]? with
  | some fn => (fn.name != "runtime.NumGoroutine") && match fn.body with
    | some c => cOK P fn.ntmps a c && (ndB ((loopsOf c).map tag) && decide (a.ak = List.range a.ak.length))
    | none => false
  | none => false
def Tld.ok (T : Tld) : Bool := T.ann.all fun p => fOK T.P p.1 p.2

theorem findLoop_mem : ∀ {c c' : Code} {t : Nat}, findLoop t c = some c' → c' ∈ loopsOf c ∧ tag c' = t := by
  intro c
  induction c with
  | seq x y ihx ihy =>
    intro c' t h
    simp only [findLoop] at h
    cases hx : findLoop t x with
    | some z => rw [hx] at h; simp at h; subst h; exact ⟨by simp only [loopsOf]; exact List.mem_append_left _ (ihx hx).1, (ihx hx).2⟩
    | none => rw [hx] at h; simp at h; exact ⟨by simp only [loopsOf]; exact List.mem_append_right _ (ihy h).1, (ihy h).2⟩
  | cond _ x y ihx ihy =>
    intro c' t h
    simp only [findLoop] at h
    cases hx : findLoop t x with
    | some z => rw [hx] at h; simp at h; subst h; exact ⟨by simp only [loopsOf]; exact List.mem_append_left _ (ihx hx).1, (ihx hx).2⟩
    | none => rw [hx] at h; simp at h; exact ⟨by simp only [loopsOf]; exact List.mem_append_right _ (ihy h).1, (ihy h).2⟩
  | block _ c ih => intro c' t h; exact ih h
  | loop c ih =>
    intro c' t h
    simp only [findLoop] at h
    cases ht : (tag c == t) with
    | true => rw [ht] at h; simp at h; subst h; exact ⟨by simp [loopsOf], by simpa using ht⟩
    | false => rw [ht] at h; simp at h; exact ⟨by simp only [loopsOf]; exact List.mem_cons_of_mem _ (ih h).1, (ih h).2⟩
  | _ => intro c' t h; simp [findLoop] at h
theorem findLoop_of_mem : ∀ {c : Code}, ((loopsOf c).map tag).Nodup → ∀ {c' : Code}, c' ∈ loopsOf c → findLoop (tag c') c = some c' := by
  intro c
  have app : ∀ {x y : Code}, (∀ {c' : Code}, ((loopsOf x).map tag).Nodup → c' ∈ loopsOf x → findLoop (tag c') x = some c') → (∀ {c' : Code}, ((loopsOf y).map tag).Nodup → c' ∈ loopsOf y → findLoop (tag c') y = some c') →
      (((loopsOf x ++ loopsOf y)).map tag).Nodup → ∀ {c' : Code}, c' ∈ loopsOf x ++ loopsOf y → (findLoop (tag c') x).or (findLoop (tag c') y) = some c' := by
    intro x y ihx ihy hn c' hm
    rw [List.map_append, List.nodup_append] at hn
    rcases List.mem_append.1 hm with hm | hm
    · rw [ihx hn.1 hm]; rfl
    · cases hx : findLoop (tag c') x with
      | none => simpa using ihy hn.2.1 hm
      | some z =>
        obtain ⟨h1, h2⟩ := findLoop_mem hx
        exact absurd rfl (hn.2.2 (tag c') (h2 ▸ List.mem_map_of_mem h1) (tag c') (List.mem_map_of_mem hm))
  induction c with
  | seq x y ihx ihy => intro hn c' hm; exact app (fun h m => ihx h m) (fun h m => ihy h m) hn hm
  | cond _ x y ihx ihy => intro hn c' hm; exact app (fun h m => ihx h m) (fun h m => ihy h m) hn hm
  | block _ c ih => intro hn c' hm; exact ih hn hm
  | loop c ih =>
    intro hn c' hm
    simp only [loopsOf, List.map_cons, List.nodup_cons] at hn hm
    simp only [findLoop]
    rcases List.mem_cons.1 hm with rfl | hm
    · simp
    · have hne : (tag c == tag c') = false := by
        rw [Bool.eq_false_iff]; intro h
        exact hn.1 (by rw [beq_iff_eq.1 h]; exact List.mem_map_of_mem hm)
      rw [hne]
      exact ih hn.2 hm
  | _ => intro hn c' hm; simp [loopsOf] at hm

theorem cOK_loop {P : Program} {m : Nat} {a : Ann} : ∀ (c : Code), cOK P m a c = true → ∀ {c' : Code}, c' ∈ loopsOf c → cOK P m a c' = true := by
  intro c
  induction c with
  | seq x y ihx ihy =>
    intro h c' hm
    simp only [cOK, Bool.and_eq_true] at h
    rcases List.mem_append.1 hm with hm | hm
    · exact ihx h.1 hm
    · exact ihy h.2 hm
  | cond _ x y ihx ihy =>
    intro h c' hm
    simp only [cOK, Bool.and_eq_true] at h
    rcases List.mem_append.1 hm with hm | hm
    · exact ihx h.1 hm
    · exact ihy h.2 hm
  | block _ c ih => intro h c' hm; exact ih h hm
  | loop c ih =>
    intro h c' hm
    rcases List.mem_cons.1 hm with rfl | hm
    · exact h
    · exact ih h hm
  | _ => intro h c' hm; simp [loopsOf] at hm
theorem loopsOf_trans : ∀ (c : Code) {c1 c2 : Code}, c1 ∈ loopsOf c → c2 ∈ loopsOf c1 → c2 ∈ loopsOf c := by
  intro c
  induction c with
  | seq x y ihx ihy =>
    intro c1 c2 h1 h2
    rcases List.mem_append.1 h1 with h1 | h1
    · exact List.mem_append_left _ (ihx h1 h2)
    · exact List.mem_append_right _ (ihy h1 h2)
  | cond _ x y ihx ihy =>
    intro c1 c2 h1 h2
    rcases List.mem_append.1 h1 with h1 | h1
    · exact List.mem_append_left _ (ihx h1 h2)
    · exact List.mem_append_right _ (ihy h1 h2)
  | block _ c ih => intro c1 c2 h1 h2; exact ih h1 h2
  | loop c ih =>
    intro c1 c2 h1 h2
    rcases List.mem_cons.1 h1 with rfl | h1
    · exact List.mem_cons_of_mem _ h2
    · exact List.mem_cons_of_mem _ (ih h1 h2)
  | _ => intro c1 c2 h1 h2; simp [loopsOf] at h1
section
variable {P : Program} {n : NE} {Y : Nat → Prop} {w0 : World} {F0 : Nat → Prop}
def QN [Wd] (n : NE) (Y : Nat → Prop) (w0 : World) (F0 : Nat → Prop) (R : Fr → KS → Prop) : Exit → Act → World → Prop
  | .normal, a, w => Has n Y w0 F0 R a w
  | _, _, _ => False
theorem regionN_wp [Wd] {ρ : RHO} {f : Fr} {K : KS} {a : Act} {w : World} {R : Fr → KS → Prop} {id : Nat} {ops : Array Oper} {us : List Nat} (hc : ops.toList.all (dstOK n.n) = true) (hS : Sim n Y w0 F0 ρ f K a w) (h : xopsN P ops us ops.toList f K R) :
    (Code.region id ops false).wp P (QN n Y w0 F0 R) a w :=
  wp_region (xopsN_ok (fun a w h => h) _ _ _ (by
        apply List.ext_getElem?
        intro i
        simp only [List.getElem?_map]
        rcases Nat.lt_or_ge i ops.size with h' | h'
        · simp [h']
        · simp [h']) hc _ _ _ _ _ hS h)
theorem region_wp [Wd] {ρ : RHO} {f : Fr} {K : KS} {a : Act} {w : World} {R : Fr → KS → Prop} {id : Nat} {ops : Array Oper} (hc : ops.toList.all (dstOK n.n) = true) (hS : Sim n Y w0 F0 ρ f K a w) (h : xseq P ops ops.toList f K R) :
    (Code.region id ops false).wp P (QN n Y w0 F0 R) a w :=
  wp_region (xops_ok (fun a w h => h) _ _ (by
        apply List.ext_getElem?
        intro i
        simp only [List.getElem?_map]
        rcases Nat.lt_or_ge i ops.size with h' | h'
        · simp [h']
        · simp [h']) hc _ _ _ _ _ hS (xops_seq _ h))
theorem regionA_wp [Wd] {ρ : RHO} {f : Fr} {K : KS} {a : Act} {w : World} {R : Fr → KS → Prop} {id : Nat} {ops : Array Oper} (hc : ops.toList.all (dstOK n.n) = true) (hS : Sim n Y w0 F0 ρ f K a w) (h : xops P ops ops.toList f K R ()) :
    (Code.region id ops false).wp P (QN n Y w0 F0 R) a w :=
  wp_region (xops_ok (fun a w h => h) _ _ (by
        apply List.ext_getElem?
        intro i
        simp only [List.getElem?_map]
        rcases Nat.lt_or_ge i ops.size with h' | h'
        · simp [h']
        · simp [h']) hc _ _ _ _ _ hS h)
theorem range_map (ops : Array Oper) : (List.range ops.size).filterMap (ops[·]?) = ops.toList := by
  have key : ∀ m, m ≤ ops.size → (List.range m).filterMap (ops[·]?) = ops.toList.take m := by
    intro m
    induction m with
    | zero => intro _; simp
    | succ m ih =>
      intro hm
      rw [List.range_succ, List.filterMap_append, ih (by omega), List.take_succ_eq_append_getElem (by simp; omega)]
      simp [Array.getElem?_eq_getElem (show m < ops.size by omega)]
  rw [key _ (Nat.le_refl _), List.take_of_length_le (by simp)]
theorem drawn_wp [Wd] (hm : P.follows .mixedOrders = true) {ρ : RHO} {f : Fr} {K : KS} {a : Act} {w : World} {R : Fr → KS → Prop} {id : Nat} {ops : Array Oper} {is : List Nat} (hc : ops.toList.all (dstOK n.n) = true) (ho : ordOK P ops is (Array.replicate ops.size false) = true) (hl : is.length ≤ ops.size)
    (hS : Sim n Y w0 F0 ρ f K a w) (h : xseq P ops (is.filterMap (ops[·]?)) f K R) : (Code.region id ops true).wp P (QN n Y w0 F0 R) a w :=
  wp_region_any hm (XAny_ok hc (fun a w h => h) _ _ ρ f K a _ hS.drawn (ordOK_any is _ _ f K ho hl h))
theorem tree_wp [Wd] (hm : P.follows .mixedOrders = true) {ρ : RHO} {f : Fr} {K : KS} {a : Act} {w : World} {R : Fr → KS → Prop} {id : Nat} {ops : Array Oper} {t : OT} (hc : ops.toList.all (dstOK n.n) = true) (ho : otOK P ops t false (Array.replicate ops.size false) = true) (hl : t.depth ≤ ops.size)
    (hS : Sim n Y w0 F0 ρ f K a w) (h : xtree P ops t f K R) : (Code.region id ops true).wp P (QN n Y w0 F0 R) a w :=
  wp_region_any hm (XAny_ok hc (fun a w h => h) _ _ ρ f K a _ hS.drawn (otOK_any _ t _ f K ho hl h))
theorem otree_ok [Wd] {β : Type} {r : β} {D : Orc} (hD : OrcP P D) {ops : Array Oper} : ∀ (t : OT) {f : Fr} {K : KS} {k : Fr → KS → Option β} {l}, otree P D ops t f K k l = some r → xtree P ops t f K (fun f K => k f K = some r)
  | .done, f, K, k, l, h => h
  | .one i t, f, K, k, l, h => by
    unfold otree at h
    unfold xtree
    split at h
    · rename_i o ho
      simp only [ho]
      exact xone_mono (oops_ok hD [o] h) fun f K h => otree_ok hD t h
    · cases h
  | .alt a b, f, K, k, l, h => by
    unfold otree oeq at h
    split at h
    · rename_i he
      exact ⟨otree_ok hD a h, otree_ok hD b (by rw [← he]; exact h)⟩
    · cases h
theorem oord_eq (ops : Array Oper) (o : Option (List Nat)) : oord ops o = (ordOf ops o).filterMap (ops[·]?) := by
  cases o with
  | none => exact (range_map ops).symm
  | some is => rfl
variable {D : Orc} {β : Type}
theorem oreg_ok [Wd] (hD : OrcP P D) {A : Ann} {id : Nat} {ops : Array Oper} {l : List Oper} {c : Code} {ρ : RHO} {f : Fr} {K : KS} {a : Act} {w : World} (hS : Sim n Y w0 F0 ρ f K a w)
    (hrun : ∀ R, xseq P ops l f K R → c.wp P (QN n Y w0 F0 R) a w) (hj : jOK A id l = true) {Q : KT β} {r : β} (h : oreg P D A id ops l Q f K () = some r) : c.wp P (QQ n Y w0 F0 fun e f K => Q e f K = some r) a w := by
  unfold oreg at h
  unfold jOK at hj
  split at h
  · refine wp_mono (hrun _ (oops_ok hD l h)) fun e a w hq => ?_
    cases e <;> first | exact hq | exact hq.elim
  · rename_i s lo hi hs
    simp only [hs] at hj
    unfold jbind at h
    obtain ⟨b, h1, h2⟩ := Option.bind_eq_some_iff.1 h
    refine wp_mono (hrun _ (xseq_calm l hj (oops_ok hD l h1))) fun e a' w' hq => ?_
    cases e with
    | normal =>
      obtain ⟨f', K', ρ', hS', h3, h4, h5⟩ := hq
      have hb : f' s = .b b := by
        cases hfs : f' s <;> rw [hfs] at h3 <;> first | (cases h3; done) | skip
        simp only [asB, jsome] at h3
        injection h3 with h3; rw [h3]
      refine ⟨up (wipe lo hi f) s (.b b), K, ρ', hS'.cut h5 hS.keep.1 (fun t => ?_) hS.wfK, h2⟩
      unfold up wipe
      by_cases ht : t = s
      · subst ht; rw [if_pos rfl, hb]; exact .inr ⟨rfl, by simp [wfA]⟩
      · rw [if_neg ht]
        cases hr : (Nat.ble lo t && Nat.blt t hi) with
        | true => exact .inl rfl
        | false =>
          refine .inr ⟨(h4 t ?_).symm, hS.wf t⟩
          simp only [inJ, hr, Bool.or_false]
          simpa using ht
    | ret => exact hq.elim
    | exit id => exact hq.elim
    | goto l => exact hq.elim
    | panic l => exact hq.elim
    | outgrown => exact hq.elim

/-- What is told of a loop is so. -/
def LoopP [Wd] (P : Program) (D : Orc) (m z : Nat) (c : Code) : Prop :=
  ∀ (n : NE) (Y : Nat → Prop) (w0 : World) (F0 : Nat → Prop) (ρ : RHO) (f : Fr) (K : KS) (a : Act) (w : World) (o : XE × Fr × KS), n.n = m → n.E.sz ≤ z → Sim n Y w0 F0 ρ f K a w → D.l (tag c) f K = some o →
    (Code.loop c).wp P (QQ n Y w0 F0 fun e f K => o = (e, f, K)) a w

theorem ocode_ok [Wd] (hD : OrcP P D) (hm : P.follows .mixedOrders = true) {A : Ann} (hz : n.E.sz ≤ A.ak.length) (hr : A.ak = List.range A.ak.length) : ∀ (c : Code), cOK P n.n A c = true → (∀ c' ∈ loopsOf c, LoopP P D n.n A.ak.length c') → ∀ {Q : KT β} {r : β} {ρ : RHO} {f : Fr} {K : KS} {a : Act} {w : World} {l}, Sim n Y w0 F0 ρ f K a w →
    ocode P D A c Q f K l = some r → c.wp P (QQ n Y w0 F0 fun e f K => Q e f K = some r) a w := by
  intro c
  induction c with
  | skip => intro _ _ Q r ρ f K a w l hS h; exact wp_skip ⟨f, K, ρ, hS, h⟩
  | ret => intro _ _ Q r ρ f K a w l hS h; exact wp_ret ⟨f, K, ρ, hS, h⟩
  | exit id => intro _ _ Q r ρ f K a w l hS h; exact wp_exit ⟨f, K, ρ, hS, h⟩
  | region id ops draw =>
    intro hc _ Q r ρ f K a w l hS h
    simp only [cOK, Bool.and_eq_true] at hc
    cases draw with
    | false =>
      unfold ocode oregN oregA at h
      split at h
      · split at h
        · exact oreg_ok hD hS (fun R hR => region_wp hc.1 hS hR) hc.2 h
        · refine wp_mono (regionA_wp hc.1 hS (oopsA_ok hD _ h)) fun e a w hq => ?_
          cases e <;> first | exact hq | exact hq.elim
      · refine wp_mono (regionN_wp hc.1 hS (oopsN_ok hD _ _ h)) fun e a w hq => ?_
        cases e <;> first | exact hq | exact hq.elim
    | true =>
      unfold ocode oregT at h
      split at h
      · rename_i t ht
        simp only [ht, Bool.and_eq_true] at hc
        refine wp_mono (tree_wp hm hc.1 hc.2.1 (by simpa [Nat.ble_eq] using hc.2.2) hS (otree_ok hD t h)) fun e a w hq => ?_
        cases e <;> first | exact hq | exact hq.elim
      rename_i ht
      simp only [ht, Bool.and_eq_true, ← oord_eq] at hc
      refine oreg_ok hD hS (fun R hR => drawn_wp hm hc.1 hc.2.1.1 (by simpa [Nat.ble_eq] using hc.2.1.2) hS ?_) hc.2.2 h
      rw [← oord_eq]; exact hR
  | seq x y ihx ihy =>
    intro hc hl Q r ρ f K a w l hS h
    simp only [cOK, Bool.and_eq_true] at hc
    refine wp_seq (wp_mono (ihx hc.1 (fun c' hm => hl c' (by simp only [loopsOf]; exact List.mem_append_left _ hm)) hS h) fun e a w hq => ?_)
    cases e with
    | normal => obtain ⟨f, K, ρ, h1, h2⟩ := hq; exact ihy hc.2 (fun c' hm => hl c' (by simp only [loopsOf]; exact List.mem_append_right _ hm)) h1 h2
    | ret => exact hq
    | exit id => exact hq
    | goto l => exact hq
    | panic l => exact hq
    | outgrown => exact hq
  | cond c x y ihx ihy =>
    intro hc hl Q r ρ f K a w l hS h
    simp only [cOK, Bool.and_eq_true] at hc
    unfold ocode at h
    split at h
    · rename_i b hb
      have := hS.ev c
      rw [hb] at this
      simp only [XR] at this
      obtain ⟨h1, h2⟩ := cond_some h
      exact wp_cond_split this.1 (fun hb => ihx hc.1 (fun c' hm => hl c' (by simp only [loopsOf]; exact List.mem_append_left _ hm)) hS (h1 hb)) (fun hb => ihy hc.2 (fun c' hm => hl c' (by simp only [loopsOf]; exact List.mem_append_right _ hm)) hS (h2 hb))
    · cases h
  | block id c ih =>
    intro hc hl Q r ρ f K a w l hS h
    refine wp_block (wp_mono (ih hc hl hS h) fun e a w hq => ?_)
    cases e with
    | exit id' =>
      obtain ⟨f1, K1, ρ1, q1, q2⟩ := hq
      simp only [oblk] at q2
      simp only [Exit.inBlock]
      split
      · rename_i he; rw [he] at q2; simp at q2; exact ⟨f1, K1, ρ1, q1, q2⟩
      · rename_i he
        have : (id' == id) = false := by simpa using he
        rw [this] at q2
        exact ⟨f1, K1, ρ1, q1, q2⟩
    | normal => exact hq
    | ret => exact hq
    | goto l => exact hq
    | panic l => exact hq
    | outgrown => exact hq
  | loop c ih =>
    intro hc hl Q r ρ f K a w l hS h
    unfold ocode at h
    split at h
    · rename_i la hla
      obtain ⟨f', K', h1, h2⟩ := onorm_ok hr h
      unfold obind at h2
      obtain ⟨o, h3, h4⟩ := Option.bind_eq_some_iff.1 h2
      obtain ⟨ρ', hS'⟩ := h1 n Y w0 F0 ρ a w hz hS
      refine wp_mono (hl c (by simp [loopsOf]) n Y w0 F0 ρ' f' K' a w o rfl hz hS' h3) fun e a w hq => ?_
      cases e with
      | normal => obtain ⟨f1, K1, ρ1, q1, q2⟩ := hq; subst q2; exact ⟨f1, K1, ρ1, q1, h4⟩
      | ret => obtain ⟨f1, K1, ρ1, q1, q2⟩ := hq; subst q2; exact ⟨f1, K1, ρ1, q1, h4⟩
      | exit id => obtain ⟨f1, K1, ρ1, q1, q2⟩ := hq; subst q2; exact ⟨f1, K1, ρ1, q1, h4⟩
      | goto l => exact hq.elim
      | panic l => exact hq.elim
      | outgrown => exact hq.elim
    · cases h
  | rangeFunc _ _ _ _ _ _ => intro _ _ Q r ρ f K a w l hS h; unfold ocode at h; cases h
  | scope _ _ => intro _ _ Q r ρ f K a w l hS h; unfold ocode at h; cases h
  | label _ => intro _ _ Q r ρ f K a w l hS h; unfold ocode at h; cases h
  | goto _ => intro _ _ Q r ρ f K a w l hS h; unfold ocode at h; cases h
  | refuse _ => intro _ _ Q r ρ f K a w l hS h; unfold ocode at h; cases h

theorem loop_ok [Wd] (hD : OrcP P D) (hm : P.follows .mixedOrders = true) {A : Ann} {c : Code} {la rt : LA} (hz : n.E.sz ≤ A.ak.length) (hr : A.ak = List.range A.ak.length) (hok : cOK P n.n A c = true) (hl : ∀ c' ∈ loopsOf c, LoopP P D n.n A.ak.length c')
    {ρ : RHO} {f : Fr} {K : KS} {a : Act} {w : World} {o : XE × Fr × KS} (hS : Sim n Y w0 F0 ρ f K a w) (h : run (fun s : ST => ocode P D A c (contL A.ak la rt) s.1 s.2 ()) (f, K) = some o) :
    (Code.loop c).wp P (QQ n Y w0 F0 fun e f K => o = (e, f, K)) a w := by
  obtain ⟨m, hm'⟩ := run_some.1 h
  have key : ∀ (m : Nat) (f : Fr) (K : KS), itr (fun s : ST => ocode P D A c (contL A.ak la rt) s.1 s.2 ()) m (f, K) = some o → ∀ a w, (∃ ρ, Sim n Y w0 F0 ρ f K a w) → ∀ (b : Frame) (k : List Item) (cs : List Frame),
      ∃ e a' w', QQ n Y w0 F0 (fun e f K => o = (e, f, K)) e a' w' ∧ Arrives P (lone (b.at a (.code c :: .inLoop c :: k)) cs w) b k cs e a' w' := by
    intro m
    induction m with
    | zero => intro f K h; cases h
    | succ m ihm =>
      intro f K h a w ⟨ρ, hS⟩ b k cs
      simp only [itr] at h
      obtain ⟨res, h1, h2⟩ := Option.bind_eq_some_iff.1 h
      obtain ⟨e, a₁, w₁, hq, harr⟩ := ocode_ok hD hm hz hr c hok hl hS h1 b (.inLoop c :: k) cs
      cases e with
      | normal =>
        obtain ⟨f1, K1, ρ1, q1, q2⟩ := hq
        simp only [contL] at q2
        obtain ⟨f2, K2, q3, q4⟩ := onorm_ok hr q2
        injection q4 with q4; subst q4
        obtain ⟨ρ2, q5⟩ := q3 n Y w0 F0 ρ1 a₁ w₁ hz q1
        obtain ⟨e₂, a₂, w₂, hq₂, harr₂⟩ := ihm f2 K2 h2 a₁ w₁ ⟨ρ2, q5⟩ b k cs
        exact ⟨e₂, a₂, w₂, hq₂, .of_steps (Steps.trans harr (.one step_inLoop)) harr₂⟩
      | exit id =>
        obtain ⟨f1, K1, ρ1, q1, q2⟩ := hq
        simp only [contL] at q2
        obtain ⟨f2, K2, q3, q4⟩ := onorm_ok hr q2
        injection q4 with q4; subst q4
        obtain ⟨ρ2, q5⟩ := q3 n Y w0 F0 ρ1 a₁ w₁ hz q1
        injection h2 with h2
        have hq' : QQ n Y w0 F0 (fun e f K => o = (e, f, K)) (.exit id) a₁ w₁ := ⟨f2, K2, ρ2, q5, h2.symm⟩
        exact ⟨_, a₁, w₁, hq', .pass (x := .inLoop c) rfl (fun _ _ => .inl (by simp)) harr⟩
      | ret =>
        obtain ⟨f1, K1, ρ1, q1, q2⟩ := hq
        simp only [contL] at q2
        obtain ⟨f2, K2, q3, q4⟩ := onorm_ok hr q2
        injection q4 with q4; subst q4
        obtain ⟨ρ2, q5⟩ := q3 n Y w0 F0 ρ1 a₁ w₁ hz q1
        injection h2 with h2
        have hq' : QQ n Y w0 F0 (fun e f K => o = (e, f, K)) .ret a₁ w₁ := ⟨f2, K2, ρ2, q5, h2.symm⟩
        exact ⟨_, a₁, w₁, hq', .pass (x := .inLoop c) rfl (fun _ _ => .inl (by simp)) harr⟩
      | goto l => exact hq.elim
      | panic ch => exact hq.elim
      | outgrown => exact hq.elim
  intro b k cs
  obtain ⟨e, a', w', hq, harr⟩ := key m f K hm' a w ⟨ρ, hS⟩ b k cs
  exact ⟨e, a', w', hq, .of_steps (.one step_loop) harr⟩
end

theorem lk_mem {α : Type} : ∀ {l : List (Nat × α)} {i : Nat} {x : α}, lk l i = some x → (i, x) ∈ l
  | [], i, x, h => by cases h
  | (j, y) :: l, i, x, h => by
    unfold lk at h
    cases hj : (j == i) with
    | true => rw [hj] at h; simp at h; subst h; rw [beq_iff_eq.1 hj]; exact List.mem_cons_self
    | false => rw [hj] at h; exact List.mem_cons_of_mem _ (lk_mem h)
theorem Tld.fok {T : Tld} (h : T.ok = true) {g : FuncId} {a : Ann} (ha : T.at g = some a) :
    ∃ fn c, T.P.funcs[g]? = some fn ∧ fn.body = some c ∧ fn.name ≠ "runtime.NumGoroutine" ∧ cOK T.P fn.ntmps a c = true ∧ ((loopsOf c).map tag).Nodup ∧ a.ak = List.range a.ak.length := by
  have h1 := List.all_eq_true.1 h _ (lk_mem ha)
  simp only [fOK] at h1
  split at h1
  · rename_i fn hf
    simp only [Bool.and_eq_true] at h1
    obtain ⟨h2, h3⟩ := h1
    split at h3
    · rename_i c hc
      simp only [Bool.and_eq_true] at h3
      exact ⟨fn, c, hf, hc, by simpa using h2, h3.1, ndB_nodup h3.2.1, of_decide_eq_true h3.2.2⟩
    · cases h3
  · cases h1

theorem XR_fix1 {w : World} {O : Nat → Prop} {E : EI} {s : Sh} {x : AV} {v : Value} {nb : List Nat} (h : XR w O E x v nb) : XR w O E (fix1 s x) v nb := by
  unfold fix1
  split
  · exact XR_nzc h
  · simp only [XR] at h ⊢
    obtain ⟨vs, h1, h2⟩ := h
    exact ⟨vs, h1, XRs_nz h2⟩
  · exact h
theorem XRs_fixZ {w : World} {O : Nat → Prop} {E : EI} : ∀ {ss : List Sh} {xs : List AV} {vs : List Value} {nb : List Nat}, XRs w O E xs vs nb → XRs w O E (fixZ ss xs) vs nb
  | [], [], _, _, h => h
  | [], _ :: _, _, _, h => h
  | _ :: _, [], _, _, h => h
  | s :: ss, x :: xs, vs, nb, h => by
    simp only [XRs] at h
    obtain ⟨v, vs', n1, n2, h1, h2, h3, h4⟩ := h
    simp only [fixZ, XRs]
    exact ⟨v, vs', n1, n2, h1, h2, XR_fix1 h3, XRs_fixZ h4⟩
theorem XR_fixR {w : World} {O : Nat → Prop} {E : EI} {ss : List Sh} {x : AV} {v : Value} {nb : List Nat} (h : XR w O E x v nb) : XR w O E (fixR ss x) v nb := by
  unfold fixR
  split
  · exact XR_fix1 h
  · simp only [XR] at h ⊢
    obtain ⟨vs, h1, h2⟩ := h
    exact ⟨vs, h1, XRs_fixZ h2⟩
  · exact h
theorem CP_PC [Wd] {P : Program} {D : Orc} (hD : OrcP P D) (hm : P.follows .mixedOrders = true) {g : FuncId} {fn : Func} {c : Code} {A : Ann} {args : List AV} {x : AV} (hf : P.funcs[g]? = some fn) (hb : fn.body = some c) (hn : fn.name ≠ "runtime.NumGoroutine")
    (ho : cOK P fn.ntmps A c = true) (hr : A.ak = List.range A.ak.length) (hl : ∀ c' ∈ loopsOf c, LoopP P D fn.ntmps A.ak.length c') (ha : args.length ≤ fn.ntmps) {sh : List Sh} (h : ocode P D A c (ofin P sh fn.results.toList) (argsAt args) [] () = some x) : PC P g args (· = x) := by
  refine ⟨EnterOK.of hf hb hn, fun w vs hI hX => calls_of_wp hf hb ?_⟩
  let ρ : RHO := fun _ => (none, [])
  have eO : OO [] ρ FF = FF := by funext b; simp [OO, kg]
  have eE : EK [] ρ = EN := by simp [EK, EN, kg]
  have hS : Sim ⟨fn.ntmps, EN⟩ FF w FF ρ (argsAt args) [] { tmps := vs.toArray ++ Array.replicate (fn.ntmps - vs.toArray.size) undef, defers := [] } w :=
    Sim.init ha (by rw [eO, eE]; exact hX) (by rw [eE]; exact ⟨Nat.le_refl _, fun _ _ _ h => h⟩) ⟨fun j e h => by simp [kg] at h, fun j e h => by simp [kg] at h, fun j e b h => by simp [kg] at h, fun j e k e' b h => by simp [kg] at h⟩
      (fun j e b h => by simp [kg] at h) ⟨fun b h => h.elim, fun w' he => Wd.keep he hI⟩
  refine wp_mono (ocode_ok (n := ⟨fn.ntmps, EN⟩) hD hm (Nat.zero_le _) hr c ho hl hS h) fun e a w' hq => ?_
  have fin : Has ⟨fn.ntmps, EN⟩ FF w FF (fun f K => ofin P sh fn.results.toList .ret f K = some x) a w' → a.defers = [] ∧ ∃ v, (results fn a.tmps).run P w' = .ok v w' ∧ (∃ v' x' nb, Ending.returned v = .returned v' ∧ x' = x ∧ XR w' TT EN x' v' nb ∧ nb.Nodup ∧ (∀ b ∈ nb, w.heap.size ≤ b ∧ b < w'.heap.size) ∧ Ext FF w w') := by
    rintro ⟨f, K, ρ, hS, hR⟩
    refine ⟨hS.defers, ?_⟩
    unfold ofin obind at hR
    obtain ⟨xs, h1, h2⟩ := Option.bind_eq_some_iff.1 hR
    obtain ⟨⟨K1, x'⟩, h3, h4⟩ := Option.map_eq_some_iff.1 h2
    simp only at h4
    obtain ⟨v, g1, g2⟩ := ores_ok (P := P) hS h1
    obtain ⟨nb, g3, g4, g5, g6, g7⟩ := expo_ok hS (one1 xs) (fun _ _ h => h) h3 g2
    refine ⟨v, g1, v, fixR sh x', nb, rfl, h4, XR_fixR g3, g4, fun b hb => ?_, hS.ext⟩
    obtain ⟨j, e, q1, q2, q3⟩ := g7 b hb
    refine ⟨?_, hS.sees.lt j e b q1 q3⟩
    rcases hS.new j e b q1 q3 with q | q
    · exact q.elim
    · exact q
  cases e with
  | normal => exact fin hq
  | ret => exact fin hq
  | exit id => obtain ⟨_, _, _, _, hq⟩ := hq; cases hq
  | goto l => exact hq.elim
  | panic l => exact hq.elim
  | outgrown => exact hq.elim

theorem tkl_take : ∀ {z : List Nat} {K : KS}, z.length ≤ K.length → K.take z.length = tkl z K ∧ (tkl z K).length = z.length
  | [], K, _ => by cases K <;> simp [tkl]
  | x :: z, [], h => by simp at h
  | x :: z, e :: K, h => by
    obtain ⟨h1, h2⟩ := tkl_take (z := z) (K := K) (by simpa using h)
    exact ⟨by simp [tkl, h1], by simp [tkl, h2]⟩
/-- What the evaluator tells of a function that writes the regions it is given is so. -/
theorem CA_AC [Wd] {P : Program} {D : Orc} (hD : OrcP P D) (hm : P.follows .mixedOrders = true) {g : FuncId} {fn : Func} {c : Code} {A : Ann} {K1 : KS} {args : List AV} {x : AV × KS} (hf : P.funcs[g]? = some fn) (hb : fn.body = some c) (hn : fn.name ≠ "runtime.NumGoroutine")
    (ho : cOK P fn.ntmps A c = true) (hr : A.ak = List.range A.ak.length) (hl : ∀ c' ∈ loopsOf c, LoopP P D fn.ntmps A.ak.length c') (hK : K1.length = A.ak.length) (ha : args.length ≤ fn.ntmps) (h : ocode P D A c (ofinA P A.ak fn.results.toList) (argsAt args) K1 () = some x) :
    AC P g K1 args (fun v K' => (v = x.1 ∧ K'.take K1.length = x.2) ∧ x.1.flat = true ∧ (∀ e ∈ x.2, isLst e = true) ∧ x.2.length = K1.length) := by
  have key : (∃ f K, ofinA P A.ak fn.results.toList .ret f K = some x) → x.1.flat = true ∧ (∀ e ∈ x.2, isLst e = true) ∧ x.2.length = K1.length := by
    rintro ⟨f, K, hR⟩
    unfold ofinA obind at hR
    obtain ⟨xs, h1, h2⟩ := Option.bind_eq_some_iff.1 hR
    obtain ⟨h3, h4⟩ := need_some h2
    simp only [Bool.and_eq_true] at h3
    injection h4 with h4
    subst h4
    exact ⟨h3.1, allL_ok h3.2.1, by rw [(tkl_take (by simpa [Nat.ble_eq] using h3.2.2)).2, hK]⟩
  have hAC : AC P g K1 args (fun v K' => (v = x.1 ∧ K'.take K1.length = x.2) ∧ ∃ f K, ofinA P A.ak fn.results.toList .ret f K = some x) := by
    refine ⟨EnterOK.of hf hb hn, fun w ρ Y vs hI hY hSe hX => calls_of_wp hf hb ?_⟩
    let F1 : Nat → Prop := fun b => ∃ j e, kg K1 j = some e ∧ b ∈ fp ρ j
    have hS : Sim ⟨fn.ntmps, EK K1 ρ⟩ Y w F1 ρ (argsAt args) K1 { tmps := vs.toArray ++ Array.replicate (fn.ntmps - vs.toArray.size) undef, defers := [] } w :=
      Sim.init ha hX ⟨Nat.le_refl _, fun _ _ _ h => h⟩ hSe (fun j e b hj hb => .inl ⟨j, e, hj, hb⟩) ⟨fun b hb => ⟨(hY b hb).1, fun ⟨j, e, hj, hb'⟩ => (hY b hb).2 j e hj hb'⟩, hI⟩
    refine wp_mono (ocode_ok (n := ⟨fn.ntmps, EK K1 ρ⟩) hD hm (by show K1.length ≤ _; omega) hr c ho hl hS h) fun e a w' hq => ?_
    have fin : Has ⟨fn.ntmps, EK K1 ρ⟩ Y w F1 (fun f K => ofinA P A.ak fn.results.toList .ret f K = some x) a w' → a.defers = [] ∧ ∃ v, (results fn a.tmps).run P w' = .ok v w' ∧
        (∃ v' r K' ρ', Ending.returned v = .returned v' ∧ ((r = x.1 ∧ K'.take K1.length = x.2) ∧ ∃ f K, ofinA P A.ak fn.results.toList .ret f K = some x) ∧ K1.length ≤ K'.length ∧ XR w' (OO K' ρ' Y) (EK K' ρ') r v' [] ∧ Sees w' (OO K' ρ' Y) K' ρ' ∧
          Ext (fun b => ∃ j e, kg K1 j = some e ∧ b ∈ fp ρ j) w w' ∧ (∀ j e b, kg K' j = some e → b ∈ fp ρ' j → (∃ i e', kg K1 i = some e' ∧ b ∈ fp ρ i) ∨ w.heap.size ≤ b) ∧
          ∀ j e', j < K1.length → kg K' j = some e' → ∃ e, kg K1 j = some e ∧ (ρ' j).1 = (ρ j).1 ∧ e'.n = e.n ∧ e'.rows.length = e.rows.length) := by
      rintro ⟨f, K, ρ', hS, hR⟩
      refine ⟨hS.defers, ?_⟩
      have hR0 := hR
      unfold ofinA obind at hR
      obtain ⟨xs, h1, h2⟩ := Option.bind_eq_some_iff.1 hR
      obtain ⟨h3, h4⟩ := need_some h2
      simp only [Bool.and_eq_true] at h3
      injection h4 with h4
      obtain ⟨v, g1, g2⟩ := ores_ok (P := P) hS h1
      have ht := tkl_take (z := A.ak) (K := K) (by simpa [Nat.ble_eq] using h3.2.2)
      refine ⟨v, g1, v, one1 xs, K, ρ', rfl, ⟨⟨by rw [← h4], by rw [← h4, hK]; exact ht.1⟩, f, K, hR0⟩, hS.keep.1, g2, hS.sees, hS.ext, hS.new, fun i e' hi hi' => ?_⟩
      have h3 := hS.keep.2 i ((ρ' i).1, e'.n, e'.rows.length) hi (by simp [EK, hi'])
      simp only [EK] at h3
      obtain ⟨e, h4, h5⟩ := Option.map_eq_some_iff.1 h3
      injection h5 with h5 h6; injection h6 with h6 h7
      exact ⟨e, h4, h5.symm, h6.symm, h7.symm⟩
    cases e with
    | normal => exact fin hq
    | ret => exact fin hq
    | exit id => obtain ⟨_, _, _, _, hq⟩ := hq; cases hq
    | goto l => exact hq.elim
    | panic l => exact hq.elim
    | outgrown => exact hq.elim
  exact hAC.mono fun v K' ⟨h1, h2⟩ => ⟨h1, key h2⟩

theorem orc_ok [Wd] {T : Tld} (hT : T.ok = true) (hm : T.P.follows .mixedOrders = true) (hX : ∀ g args x, T.xt g args = some x → PC T.P g args (· = x)) (hY : ∀ g, T.st g = true → SortP T.P g) (hZ : ∀ g, T.qt g = true → CompP T.P g) : ∀ (n : Nat) (h : FuncId), OrcP T.P (orc T n h) ∧
    ∀ (a : Ann), T.at h = some a → ∀ fn c, T.P.funcs[h]? = some fn → fn.body = some c → ∀ c' ∈ loopsOf c, LoopP T.P (orc T n h) fn.ntmps a.ak.length c'
  | 0, h => ⟨⟨fun g args x hx => by simp [orc] at hx, fun g hg => by simp [orc] at hg, fun g hg => by simp [orc] at hg, fun g K args x hx => by simp [orc] at hx⟩, fun a ha fn c hf hb c' hc n Y w0 F0 ρ f K a w o _ _ _ ho => by simp [orc] at ho⟩
  | n + 1, h => by
    refine ⟨⟨fun g args x hx => ?_, fun g hg => hY g hg, fun g hg => hZ g hg, fun g K args x hx => ?_⟩, fun a ha fn c hf hb c' hc m Y w0 F0 ρ f K act w o hn hz hS ho => ?_⟩
    · simp only [orc] at hx
      split at hx
      · rename_i a ha
        obtain ⟨fn, c, hf, hb, hnm, hok, hnd, hr⟩ := T.fok hT ha
        obtain ⟨ih1, ih2⟩ := orc_ok hT hm hX hY hZ n g
        cases hle : Nat.ble args.length (ntm T.P g) with
        | false => rw [hle] at hx; cases hx
        | true =>
          rw [hle] at hx
          have e1 : ntm T.P g = fn.ntmps := by simp [ntm, hf]
          have e2 : body T.P g = c := by simp [body, hf, hb]
          have e3 : resv T.P g = fn.results.toList := by simp [resv, hf]
          rw [e1, Nat.ble_eq] at hle
          rw [e2, e3] at hx
          exact CP_PC ih1 hm hf hb hnm hok hr (ih2 a ha fn c hf hb) hle hx
      · exact hX g args x hx
    · simp only [orc] at hx
      split at hx
      · rename_i a ha
        obtain ⟨fn, c, hf, hb, hnm, hok, hnd, hr⟩ := T.fok hT ha
        obtain ⟨ih1, ih2⟩ := orc_ok hT hm hX hY hZ n g
        cases hle : (!a.ak.isEmpty && (Nat.beq K.length a.ak.length && Nat.ble args.length (ntm T.P g))) with
        | false => rw [hle] at hx; cases hx
        | true =>
          rw [hle] at hx
          have e1 : ntm T.P g = fn.ntmps := by simp [ntm, hf]
          have e2 : body T.P g = c := by simp [body, hf, hb]
          have e3 : resv T.P g = fn.results.toList := by simp [resv, hf]
          simp only [Bool.and_eq_true, e1, Nat.ble_eq] at hle
          rw [e2, e3] at hx
          exact CA_AC ih1 hm hf hb hnm hok hr (ih2 a ha fn c hf hb) (Nat.eq_of_beq_eq_true hle.2.1) hle.2.2 hx
      · cases hx
    · simp only [orc, ha] at ho
      obtain ⟨fn', c0, hf', hb', hnm, hok, hnd, hr⟩ := T.fok hT ha
      rw [hf] at hf'; injection hf' with hf'; subst hf'
      rw [hb] at hb'; injection hb' with hb'; subst hb'
      obtain ⟨ih1, ih2⟩ := orc_ok hT hm hX hY hZ n h
      have e2 : body T.P h = c := by simp [body, hf, hb]
      rw [e2, findLoop_of_mem hnd hc] at ho
      split at ho
      · rename_i c1 la h1 h2
        injection h1 with h1; subst h1
        have hsub : cOK T.P fn.ntmps a c' = true := cOK_loop c hok hc
        have hlps : ∀ c2 ∈ loopsOf c', LoopP T.P (orc T n h) fn.ntmps a.ak.length c2 := fun c2 h3 => ih2 a ha fn c hf hb c2 (loopsOf_trans c hc h3)
        rw [← hn] at hsub hlps
        exact loop_ok ih1 hm hz hr hsub hlps hS ho
      · cases ho
/-- **What the evaluator tells of a call is so.** -/
theorem CP_ok [Wd] {T : Tld} (hT : T.ok = true) (hm : T.P.follows .mixedOrders = true) (hX : ∀ g args x, T.xt g args = some x → PC T.P g args (· = x)) (hY : ∀ g, T.st g = true → SortP T.P g) (hZ : ∀ g, T.qt g = true → CompP T.P g) {n : Nat} {g : FuncId} {args : List AV} {x : AV} (h : CP T n g args = some x) : PC T.P g args (· = x) := (orc_ok hT hm hX hY hZ n 0).1.1 g args x h
end Go.Proofs.Ytcpelionmmnogaa.Am
