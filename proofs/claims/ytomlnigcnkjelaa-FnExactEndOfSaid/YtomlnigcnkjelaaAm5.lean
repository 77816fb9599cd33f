/- An abstract machine for the walks: its steps that make memory are right. No condition. -/
import Derived.Test.YtomlnigcnkjelaaAm4
namespace Go.Proofs.Ytomlnigcnkjelaa.Am
open Go
set_option linter.unusedVariables false
set_option linter.unusedSimpArgs false
section
variable {P : Program} {n : NE} {Y : Nat → Prop} {w0 : World} {F0 : Nat → Prop} {ρ : RHO} {f : Fr} {K : KS} {a : Act} {w : World}

theorem Sim.add (hS : Sim n Y w0 F0 ρ f K a w) {K1 : KS} (hl : K1.length = K.length) (hk : ∀ i e, kg K1 i = some e → kg K i = some e) {e : Ent} {b : Nat} {nb : List Nat} {w' : World}
    (hsz : w.heap.size ≤ w'.heap.size) (hbl : ∀ x, x ≠ b → x < w.heap.size → w'.heap[x]? = w.heap[x]?) (hwh : ∀ x m, Whole w x m → Whole w' x m)
    (hb : b = w.heap.size ∨ ∃ j e, kg K j = some e ∧ kg K1 j = none ∧ b ∈ fp ρ j) (hnb : ∀ x ∈ nb, ∃ j e, kg K j = some e ∧ kg K1 j = none ∧ x ∈ fp ρ j) (hnd : (b :: nb).Nodup)
    (hW : Whole w' b (e.rows.length * e.n)) (hR : RR w' (fun x => OO K ρ Y x ∨ x = b) (e.E (EK K ρ)) e.n b 0 e.rows nb) (hbx : e.isBox = true → nb = [])
    (hos : w'.os = w.os) (hta : w'.tape = w.tape) (hou : w'.output = w.output) :
    ∃ ρ', Sim n Y w0 F0 ρ' f (K1 ++ [some e]) a w' ∧ (EK (K1 ++ [some e]) ρ').of K.length = some (some b, e.n, e.rows.length) ∧ (EK (K1 ++ [some e]) ρ').sz = K.length + 1 := by
  let ρ' : RHO := fun i => if i = K.length then (some b, nb) else ρ i
  have hg : ∀ i, kg (K1 ++ [some e]) i = if i = K.length then some e else kg K1 i := fun i => by rw [kg_push, hl]
  have hKn : kg K K.length = none := by simp [kg, List.getD]
  have hkl : ∀ i e0, kg K1 i = some e0 → i ≠ K.length := fun i e0 h h' => by subst h'; have := hk _ _ h; rw [hKn] at this; cases this
  have hO : ∀ x, OO (K1 ++ [some e]) ρ' Y x → OO K ρ Y x ∨ x = b := by
    rintro x (h | ⟨i, e0, hi, hx⟩)
    · exact .inl (.inl h)
    · rw [hg] at hi
      by_cases h : i = K.length
      · subst h
        simp only [fp, ρ', if_true, Option.toList, List.singleton_append] at hx
        rcases List.mem_cons.1 hx with rfl | hx
        · exact .inr rfl
        · obtain ⟨j, e1, h1, _, h2⟩ := hnb x hx
          exact .inl (.inr ⟨j, e1, h1, h2⟩)
      · rw [if_neg h] at hi
        exact .inl (.inr ⟨i, e0, hk _ _ hi, by simpa [fp, ρ', h] using hx⟩)
  have hbO : ∀ x, x < w.heap.size → x = b → OO K ρ Y x := fun x hx h => by
    subst h
    rcases hb with hb | ⟨j, e1, h1, _, h2⟩
    · omega
    · exact .inr ⟨j, e1, h1, h2⟩
  have hei : ∀ j p, j < (EK K ρ).sz → (EK (K1 ++ [some e]) ρ').of j = some p → (EK K ρ).of j = some p := by
    intro j p hj hp
    simp only [EK] at hj hp ⊢
    rw [hg] at hp
    have : j ≠ K.length := by omega
    rw [if_neg this] at hp
    cases h1 : kg K1 j with
    | none => rw [h1] at hp; cases hp
    | some e1 => rw [h1] at hp; rw [hk _ _ h1]; simpa [ρ', this] using hp
  have same : Same (OO K ρ Y) (EK K ρ) w (OO (K1 ++ [some e]) ρ' Y) (EK (K1 ++ [some e]) ρ') w' := by
    refine ⟨hsz, fun x hx hlt => hbl x (fun h => hx (hbO x hlt h)) hlt, fun x hx hlt h => ?_, by simp [EK, hl], hei, fun _ _ _ _ _ _ _ h => hwh _ _ h⟩
    rcases hO x h with h | h
    · exact hx h
    · exact hx (hbO x hlt h)
  refine ⟨ρ', hS.lift same K.length ?_ ?_ ?_, ?_, by simp [EK, hl]⟩
  · intro i e0 hi hij
    rw [hg, if_neg hij] at hi
    refine ⟨hk _ _ hi, by simp [ρ', hij], fun x hx => hbl x (fun h => ?_) (hS.sees.lt i e0 x (hk _ _ hi) hx)⟩
    subst h
    rcases hb with hb | ⟨j, e1, h1, h2, h3⟩
    · have := hS.sees.lt i e0 x (hk _ _ hi) hx; omega
    · have hij' : i ≠ j := fun h => by subst h; rw [h2] at hi; cases hi
      exact hS.sees.dj i e0 j e1 x (hk _ _ hi) h1 hij' hx h3
  · intro e0 h0
    rw [hg, if_pos rfl] at h0
    injection h0 with h0; subst h0
    have e1 : (ρ' K.length) = (some b, nb) := by simp [ρ']
    simp only [e1, fp, Option.toList, List.singleton_append]
    refine ⟨Reg.at rfl ⟨hW, ?_, hbx⟩, hnd, fun x hx => ?_⟩
    · have hw : Same (fun x => OO K ρ Y x ∨ x = b) (e.E (EK K ρ)) w' (OO (K1 ++ [some e]) ρ' Y) (e.E (EK (K1 ++ [some e]) ρ')) w' := by
        have h1 : Same (fun x => OO K ρ Y x ∨ x = b) (EK K ρ) w' (OO (K1 ++ [some e]) ρ' Y) (EK (K1 ++ [some e]) ρ') w' :=
          ⟨Nat.le_refl _, fun _ _ _ => rfl, fun x hx _ h => hx (hO x h), by simp [EK, hl], hei, fun _ _ _ _ _ _ _ h => h⟩
        cases e with
        | box cs => exact h1
        | lst m rows => exact h1.en
      exact RR.mono _ hw _ _ _ rfl (fun _ _ => rfl) hR
    · rcases List.mem_cons.1 hx with rfl | hx
      · refine ⟨hW.lt, ?_⟩
        rcases hb with hb | ⟨j, e1, h1, h2, h3⟩
        · exact .inl (by omega)
        · have : kg (K1 ++ [some e]) j = none := by
            rw [hg]
            have : j ≠ K.length := fun h => by subst h; rw [hKn] at h1; cases h1
            rw [if_neg this]; exact h2
          exact .inr ⟨j, e1, h1, h3, .inr this⟩
      · obtain ⟨j, e1, h1, h2, h3⟩ := hnb x hx
        have h4 := hS.sees.lt j e1 x h1 h3
        have : kg (K1 ++ [some e]) j = none := by
          rw [hg]
          have : j ≠ K.length := fun h => by subst h; rw [hKn] at h1; cases h1
          rw [if_neg this]; exact h2
        exact ⟨by omega, .inr ⟨j, e1, h1, h3, .inr this⟩⟩
  · refine hS.ext.trans (G := fun x => x = b) ⟨hos, hta, hou, hsz, fun x hx h => hbl x h hx, hwh⟩ (fun _ h => h) (fun x hx h => ?_)
    subst h
    rcases hb with hb | ⟨j, e1, h1, h2, h3⟩
    · have := hS.ext.size; omega
    · rcases hS.new j e1 _ h1 h3 with h | h
      · exact h
      · omega
  · simp [EK, hg, ρ']

/-- The world behind a new row of cells. -/
def wnew (w : World) (c : Array Value) (el : TypeId) : World := { w with heap := w.heap.push (.cells c el) }
theorem wnew_old (w : World) (c : Array Value) (el : TypeId) (x : Nat) (h : x < w.heap.size) : (wnew w c el).heap[x]? = w.heap[x]? := by
  show (w.heap.push _)[x]? = _
  rw [Array.getElem?_push, if_neg (by omega)]
theorem wnew_whole {w : World} {c : Array Value} {el : TypeId} {x m : Nat} (h : Whole w x m) : Whole (wnew w c el) x m := h.same (wnew_old _ _ _ _ h.lt)
theorem wnew_here (w : World) (c : Array Value) (el : TypeId) : (wnew w c el).heap[w.heap.size]? = some (.cells c el (0, 0)) := by
  show (w.heap.push _)[w.heap.size]? = _
  rw [Array.getElem?_push, if_pos rfl]

theorem RR_mk {O : Nat → Prop} {E : EI} {m : Nat} : ∀ {rs : List (List AV)} {bl off : Nat} {nb : List Nat} {vs : List Value}, (∀ r ∈ rs, r.length = m) →
    (∀ i, i < vs.length → w.cell? ⟨bl, off + i, none⟩ = vs[i]?) → (∀ v ∈ vs, oneCell v = true) → XRs w O E rs.flatten vs nb → RR w O E m bl off rs nb
  | [], bl, off, nb, vs, _, _, _, h => by simp [XRs] at h; simp [RR, h.2]
  | r :: rs, bl, off, nb, vs, hr, hc, ho, h => by
    have hrl := hr r (by simp)
    obtain ⟨n1, n2, rfl, h1, h2⟩ := XRs_split m h
    simp only [List.flatten_cons] at h1 h2
    rw [List.take_append_of_le_length (by omega), List.take_of_length_le (by omega)] at h1
    rw [List.drop_append_of_le_length (by omega), List.drop_of_length_le (by omega), List.nil_append] at h2
    have hl := XRs_length h
    simp at hl
    simp only [RR]
    refine ⟨n1, n2, rfl, hrl, CR_mk (vs := vs.take m) (fun i hi => ?_) (fun v hv => ho v (List.mem_of_mem_take hv)) h1, RR_mk (vs := vs.drop m) (fun r hr' => hr r (by simp [hr'])) (fun i hi => ?_) (fun v hv => ho v (List.mem_of_mem_drop hv)) h2⟩
    · rw [hc i (by omega), List.getElem?_take, if_pos (by omega)]
    · rw [List.length_drop] at hi
      have := hc (m + i) (by omega)
      rw [Nat.add_assoc, this, List.getElem?_drop]

/-- A new region out of values of the frame: those that are regions themselves are taken in, and are no more. -/
theorem Sim.push (hS : Sim n Y w0 F0 ρ f K a w) {K1 : KS} (hl : K1.length = K.length) (hk : ∀ i e, kg K1 i = some e → kg K i = some e) {e : Ent} {nb : List Nat} {c : Array Value} {el : TypeId} {vs : List Value}
    (hrow : ∀ r ∈ e.rows, r.length = e.n) (hX : XRs w (OO K ρ Y) (e.E (EK K ρ)) e.rows.flatten vs nb) (hc : ∀ i, i < vs.length → c[i]? = vs[i]?) (ho : ∀ v ∈ vs, oneCell v = true) (hcs : e.rows.length * e.n ≤ c.size)
    (hnb : ∀ x ∈ nb, ∃ j e, kg K j = some e ∧ kg K1 j = none ∧ x ∈ fp ρ j) (hnd : nb.Nodup) (hbx : e.isBox = true → nb = []) :
    ∃ ρ', Sim n Y w0 F0 ρ' f (K1 ++ [some e]) a (wnew w c el) ∧ (EK (K1 ++ [some e]) ρ').of K.length = some (some w.heap.size, e.n, e.rows.length) ∧ (EK (K1 ++ [some e]) ρ').sz = K.length + 1 := by
  have hlt : ∀ x ∈ nb, x < w.heap.size := fun x hx => by
    obtain ⟨j, e1, h1, _, h2⟩ := hnb x hx
    exact hS.sees.lt j e1 x h1 h2
  have hsz : w.heap.size ≤ (wnew w c el).heap.size := by simp [wnew]
  refine hS.add hl hk hsz (fun x _ hx => wnew_old _ _ _ _ hx) (fun x m h => wnew_whole h) (.inl rfl) hnb ?_ ⟨c, el, wnew_here _ _ _, hcs⟩ ?_ hbx rfl rfl rfl
  · rw [List.nodup_cons]; exact ⟨fun h => by have := hlt _ h; omega, hnd⟩
  · have hs : Same (OO K ρ Y) (e.E (EK K ρ)) w (fun x => OO K ρ Y x ∨ x = w.heap.size) (e.E (EK K ρ)) (wnew w c el) :=
      ⟨hsz, fun x _ hx => wnew_old _ _ _ _ hx, fun x hx hlt h => by rcases h with h | h; exact hx h; omega, Nat.le_refl _, fun _ _ _ h => h, fun _ _ _ _ _ _ _ h => wnew_whole h⟩
    refine RR_mk hrow (vs := vs) (fun i hi => ?_) ho (XRs.mono _ hs _ _ (fun b hb => wnew_old _ _ _ _ (hlt b hb)) hX)
    rw [Nat.zero_add]
    simp only [World.cell?, wnew_here]
    simpa using hc i hi

theorem newRow_run (t : TypeId) (c : Array Value) (w : World) : (newRow t c).run P w = .ok ⟨w.heap.size, 0, none⟩ (wnew w c t) := by
  simp [newRow, wnew]

theorem flat1 (cs : List AV) : [cs].flatten = cs := by simp

theorem box_ok (hS : Sim n Y w0 F0 ρ f K a w) {cs : List AV} {vs : List Value} (hX : XRs w (OO K ρ Y) (EK K ρ) cs vs []) (ho : ∀ v ∈ vs, oneCell v = true) (t : TypeId) :
    ∃ ρ', Sim n Y w0 F0 ρ' f (K ++ [some (.box cs)]) a (wnew w vs.toArray t) ∧ XR (wnew w vs.toArray t) (OO (K ++ [some (.box cs)]) ρ' Y) (EK (K ++ [some (.box cs)]) ρ') (.ptr K.length 0 0) (.pointer (some ⟨w.heap.size, 0, none⟩)) [] := by
  have hl := XRs_length hX
  obtain ⟨ρ', h1, h2, h3⟩ := hS.push (K1 := K) rfl (fun _ _ h => h) (e := .box cs) (nb := []) (c := vs.toArray) (el := t) (vs := vs) (by simp [Ent.rows, Ent.n]) (by simpa [Ent.rows, Ent.E] using hX) (fun i hi => by simp) ho (by simp [Ent.rows, Ent.n, hl]) (by simp) (by simp) (fun _ => rfl)
  refine ⟨ρ', h1, ?_⟩
  simp only [XR, true_and]
  refine ⟨by rw [h3]; omega, fun m len hE => (by rw [h2] at hE; cases hE), fun bl m len hE => ?_⟩
  rw [h2] at hE
  injection hE with hE; injection hE with e1 hE; injection e1 with e1
  subst e1; simp

theorem xbox_ok (hS : Sim n Y w0 F0 ρ f K a w) {v : AV} {k : AV → KS → Prop} {l} {x : Value} {t : TypeId} (h : xbox K v k l) (hx : XR w (OO K ρ Y) (EK K ρ) v x []) :
    ∃ y w', (Instr.box t x).run P w = .ok y w' ∧ Out n Y w0 F0 f a k y w' := by
  have key : ∀ cs : List AV, XRs w (OO K ρ Y) (EK K ρ) cs x.cells.toList [] → (∀ v ∈ x.cells.toList, oneCell v = true) → xletK (K ++ [some (.box cs)]) (fun K' => k (.ptr K.length 0 0) K') () → ∃ y w', (Instr.box t x).run P w = .ok y w' ∧ Out n Y w0 F0 f a k y w' := by
    intro cs hX ho hk
    obtain ⟨ρ', h1, h2⟩ := box_ok hS hX ho t
    refine ⟨_, _, ?_, _, _, ρ', h1, h2, hk⟩
    simp [Instr.box, newVar, newRow_run]
  unfold xbox at h
  split at h
  · split at h
    · simp only [XR] at hx
      obtain ⟨vs, rfl, hX⟩ := hx
      exact key _ hX (XRs_one (by assumption) hX) h
    · exact h.elim
  · split at h
    · rename_i hc
      have h1 := cell_one hc hx
      refine key _ ?_ (by rw [cells_one h1]; simp [h1]) h
      rw [cells_one h1]
      simp only [XRs]
      exact ⟨x, [], [], [], rfl, rfl, hx, by simp⟩
    · exact h.elim

theorem cvs_ok {O : Nat → Prop} {E : EI} : ∀ (vs : List Value), XRs w O E (vs.map cv) vs []
  | [] => by simp [XRs]
  | v :: vs => by
    simp only [List.map_cons, XRs]
    exact ⟨v, vs, [], [], rfl, rfl, cv_ok _ _ _ _, cvs_ok vs⟩
theorem run_zero {t : TypeId} {z : Value} (h : tzero P t = some z) (w : World) : (zeroValue t).run P w = .ok z w := by
  unfold tzero at h
  cases hi : P.info? t with
  | none => rw [hi] at h; cases h
  | some i => rw [hi] at h; simp at h; simp [zeroValue, typeInfo, hi, h]
theorem cv_one {v : Value} (h : (cv v).closed = true) : oneCell v = true := by
  unfold cv at h
  split at h <;> first | rfl | (simp [AV.closed] at h; done)
theorem tzc_at {t : TypeId} {cs : List AV} (h : tzc P t = some cs) : ∃ z, tzero P t = some z ∧ cs = z.cells.toList.map cv ∧ ∀ v ∈ z.cells.toList, oneCell v = true := by
  unfold tzc at h
  cases hz : tzero P t with
  | none => rw [hz] at h; cases h
  | some z =>
    rw [hz] at h
    simp only [Option.bind_some] at h
    split at h
    · rename_i hc
      injection h with h
      refine ⟨z, rfl, h.symm, fun v hv => cv_one ?_⟩
      rw [List.all_eq_true] at hc
      exact hc _ (List.mem_map_of_mem hv)
    · cases h

theorem xalloc_ok (hS : Sim n Y w0 F0 ρ f K a w) {k : AV → KS → Prop} {l} {t : TypeId} (h : xalloc K (tzc P t) k l) :
    ∃ y w', (Instr.alloc t true (.tuple #[])).run P w = .ok y w' ∧ Out n Y w0 F0 f a k y w' := by
  unfold xalloc at h
  split at h
  · rename_i cs hc
    obtain ⟨z, hz, rfl, ho⟩ := tzc_at hc
    obtain ⟨ρ', h1, h2⟩ := box_ok hS (cvs_ok z.cells.toList) ho t
    refine ⟨_, _, ?_, _, _, ρ', h1, h2, h⟩
    simp [Instr.alloc, run_zero hz, newVar, newRow_run]
  · exact h.elim

theorem acells_ok {O : Nat → Prop} {v : AV} {x : Value} {ds : List AV} (h : acells K v = some ds) (hx : XR w O (EK K ρ) v x []) : XRs w O (EK K ρ) ds x.cells.toList [] := by
  have key : cellK K v = true → XRs w O (EK K ρ) [v] x.cells.toList [] := fun hc => by
    rw [cells_one (cell_one hc hx)]
    simp only [XRs]
    exact ⟨x, [], [], [], rfl, rfl, hx, by simp⟩
  unfold acells at h
  split at h
  · injection h with h; subst h
    simp only [XR] at hx
    obtain ⟨vs, rfl, hX⟩ := hx
    exact hX
  · split at h
    · injection h with h; subst h; exact key (by assumption)
    · cases h

theorem foldl_set : ∀ (us : List Value) (i : Nat) (cs : Array Value) (o : Nat), o + i + us.length ≤ cs.size →
    ((us.zipIdx i).foldl (fun cs (cj : Value × Nat) => cs.setIfInBounds (o + cj.2) cj.1) cs).toList = cs.toList.take (o + i) ++ us ++ cs.toList.drop (o + i + us.length)
  | [], i, cs, o, h => by simp
  | u :: us, i, cs, o, h => by
    simp only [List.zipIdx_cons, List.foldl_cons]
    simp at h
    rw [foldl_set us (i + 1) _ o (by simp; omega)]
    have hp : o + i < cs.toList.length := by simp; omega
    rw [Array.toList_setIfInBounds, List.set_eq_take_append_cons_drop, if_pos hp, show o + (i + 1) = o + i + 1 by omega]
    have hl : (cs.toList.take (o + i)).length = o + i := by simp; omega
    have e1 : (cs.toList.take (o + i) ++ u :: cs.toList.drop (o + i + 1)).take (o + i + 1) = cs.toList.take (o + i) ++ [u] := by
      rw [List.take_append, hl, List.take_of_length_le (by omega), show o + i + 1 - (o + i) = 1 by omega]; simp
    have e2 : (cs.toList.take (o + i) ++ u :: cs.toList.drop (o + i + 1)).drop (o + i + 1 + us.length) = cs.toList.drop (o + i + (u :: us).length) := by
      rw [List.drop_append, hl, List.drop_of_length_le (by omega), show o + i + 1 + us.length - (o + i) = us.length + 1 by omega]
      simp only [List.drop_succ_cons, List.drop_drop, List.nil_append, List.length_cons]
      congr 1; omega
    rw [e1, e2]; simp

theorem xfill_ok {place : Nat → Option (Nat × Nat)} {O : Nat → Prop} : ∀ {parts : List (Nat × AV)} {pv : List (Nat × Value)} {cs : List AV} {vs : Array Value} {out : List AV},
    (parts.map (·.1) = pv.map (·.1)) → (∀ (i : Nat) (p : Nat × AV) (q : Nat × Value), parts[i]? = some p → pv[i]? = some q → XR w O (EK K ρ) p.2 q.2 []) → XRs w O (EK K ρ) cs vs.toList [] → xfill K place cs parts = some out →
    ∃ us, Instr.fill place vs pv = some us ∧ XRs w O (EK K ρ) out us.toList [] ∧ out.length = cs.length
  | [], pv, cs, vs, out, hi, _, hX, h => by
    simp at hi; subst hi
    simp [xfill] at h; subst h
    exact ⟨vs, by simp [Instr.fill], hX, rfl⟩
  | (i, v) :: parts, [], _, _, _, hi, _, _, _ => by simp at hi
  | (i, v) :: parts, (i', x) :: pv, cs, vs, out, hi, hp, hX, h => by
    simp at hi
    obtain ⟨rfl, hi⟩ := hi
    simp only [xfill] at h
    split at h
    · rename_i o m ds h1 h2
      split at h
      · rename_i hc
        obtain ⟨rfl, hc⟩ := hc
        have hx := acells_ok h2 (hp 0 _ _ rfl rfl)
        have hxl := XRs_length hx
        have hvl := XRs_length hX
        simp at hxl hvl
        have hX' : XRs w O (EK K ρ) (putCells cs o ds) ((x.cells.zipIdx.foldl (fun cs (cj : Value × Nat) => cs.setIfInBounds (o + cj.2) cj.1) vs).toList) [] := by
          rw [← Array.foldl_toList, Array.toList_zipIdx, foldl_set _ 0 vs o (by simp; omega)]
          obtain ⟨n1, n2, h3, h4, h5⟩ := XRs_split o hX
          obtain ⟨rfl, rfl⟩ := List.append_eq_nil_iff.1 h3.symm
          obtain ⟨m1, m2, h6, h7, h8⟩ := XRs_split ds.length h5
          obtain ⟨rfl, rfl⟩ := List.append_eq_nil_iff.1 h6.symm
          have := XRs_append (XRs_append h4 hx) h8
          simpa [putCells, List.drop_drop, hxl, Nat.add_comm] using this
        obtain ⟨us, h6, h7, h8⟩ := xfill_ok (parts := parts) (pv := pv) hi (fun q p r hp' hq => hp (q + 1) p r (by simpa using hp') (by simpa using hq)) hX' h
        refine ⟨us, ?_, h7, by rw [h8]; simp [putCells]; omega⟩
        simp only [Instr.fill, h1]
        rw [if_neg (by simp; omega)]
        exact h6
      · cases h
    · cases h

theorem mapM_places {fs : Array Field} {p : List (Nat × Nat)} (h : places P fs = some p) (w : World) :
    (fs.mapM (m := Sem) fun fd => do pure (fd.offset, ← sizeOf fd.type)).run P w = .ok p.toArray w := by
  have key : ∀ (l : List Field) (p : List (Nat × Nat)), (l.mapM fun f => (tz P f.type).map fun m => (f.offset, m)) = some p →
      (l.mapM (m := Sem) fun fd => do pure (fd.offset, ← sizeOf fd.type)).run P w = .ok p w := by
    intro l
    induction l with
    | nil => intro p h; simp at h; subst h; simp
    | cons fd l ih =>
      intro p h
      simp only [List.mapM_cons, Option.bind_eq_bind, Option.bind_eq_some_iff, Option.map_eq_some_iff] at h
      obtain ⟨q, ⟨m, hm, rfl⟩, r, hr, h⟩ := h
      injection h with h; subst h
      simp only [List.mapM_cons, Sem.run_bind, run_sizeOf hm, Result.andThen_ok, ih r hr, Sem.run_pure]
  rw [Array.mapM_eq_mapM_toList]
  simp only [Sem.run_map]
  rw [key _ _ h]
  rfl

theorem xbuild_ok {O : Nat → Prop} {parts : List (Nat × AV)} {pv : Array (Nat × Value)} {k : AV → Prop} {l} {t : TypeId} (h : xbuild K (tbd P t) parts k l)
    (hi : parts.map (·.1) = pv.toList.map (·.1)) (hp : ∀ (i : Nat) (p : Nat × AV) (q : Nat × Value), parts[i]? = some p → pv.toList[i]? = some q → XR w O (EK K ρ) p.2 q.2 []) :
    ∃ v av, Yl P (Instr.build t pv) v ∧ XR w O (EK K ρ) av v [] ∧ k av := by
  unfold xbuild at h
  split at h
  · rename_i z p ht
    unfold tbd at ht
    split at ht
    · rename_i fs hu
      split at ht
      · rename_i z' p' h1 h2
        injection ht with e1 e2; subst e1 e2
        split at h
        · rename_i cs hf
          obtain ⟨zv, hz, rfl, _⟩ := tzc_at h1
          obtain ⟨us, h3, h4, h5⟩ := xfill_ok (vs := zv.cells) hi hp (cvs_ok _) hf
          refine ⟨.agg us, _, fun w => ?_, by simp only [XR]; exact ⟨us, rfl, h4⟩, h⟩
          have e : (fun (x : Nat) => (p'.toArray)[x]?) = (fun (x : Nat) => p'[x]?) := by funext x; simp
          simp only [Instr.build, Sem.run_bind, run_zero hz, Result.andThen_ok, run_under hu, mapM_places h2, e, h3, Sem.run_pure]
        · exact h.elim
      · cases ht
    · split at ht <;> cases ht
    · cases ht
  · rename_i z m ht
    unfold tbd at ht
    split at ht
    · split at ht <;> cases ht
    · rename_i ln e hu
      split at ht
      · rename_i z' m' h1 h2
        injection ht with e1 e2; subst e1 e2
        split at h
        · rename_i cs hf
          obtain ⟨zv, hz, rfl, _⟩ := tzc_at h1
          obtain ⟨us, h3, h4, h5⟩ := xfill_ok (vs := zv.cells) hi hp (cvs_ok _) hf
          refine ⟨.agg us, _, fun w => ?_, by simp only [XR]; exact ⟨us, rfl, h4⟩, h⟩
          simp [Instr.build, run_zero hz, run_under hu, run_sizeOf h2, h3]
        · exact h.elim
      · cases ht
    · cases ht
  · exact h.elim

theorem own_of_sl (hS : Sim n Y w0 F0 ρ f K a w) {j m : Nat} {rows : List (List AV)} {v : Value} (hj : kg K j = some (.lst m rows)) (h : XR w (OO K ρ Y) (EK K ρ) (.sl j) v []) {E : EI} :
    XR w (OO K ρ Y) E (.own m rows) v (fp ρ j) ∧ oneCell v = true := by
  have hreg := hS.sees.reg j _ hj
  obtain ⟨ad, cap, hv, hc, hw⟩ := XR_sl_at hS hj h
  refine ⟨?_, by rw [hv]; rfl⟩
  simp only [XR, fp]
  rcases hw with ⟨h1, rfl, h0⟩ | ⟨b, h1, rfl, hw⟩
  · rw [h1] at hreg ⊢
    simp only [Ent.rows] at h0 hv
    subst h0
    exact .inl ⟨rfl, ⟨_, hv⟩, by simp [hreg.2]⟩
  · rw [h1] at hreg ⊢
    exact .inr ⟨b, _, cap, rfl, hv, hc, hw, hreg.2.1⟩

theorem absorb_ok (hS : Sim n Y w0 F0 ρ f K a w) : ∀ {cs : List AV} {vs : List Value} {K2 K1 : KS} {out : List AV}, (∀ i e, kg K2 i = some e → kg K i = some e) → XRs w (OO K ρ Y) (EK K ρ) cs vs [] → absorb K2 cs = some (K1, out) →
    ∃ nb, XRs w (OO K ρ Y) EN out vs nb ∧ out.length = cs.length ∧ K1.length = K2.length ∧ (∀ i e, kg K1 i = some e → kg K2 i = some e) ∧ (∀ x ∈ nb, ∃ j e, kg K2 j = some e ∧ kg K1 j = none ∧ x ∈ fp ρ j) ∧ nb.Nodup ∧ ∀ v ∈ vs, oneCell v = true
  | [], vs, K2, K1, out, _, hX, h => by
    simp [absorb] at h; obtain ⟨rfl, rfl⟩ := h
    simp only [XRs] at hX
    exact ⟨[], by simp [XRs, hX.1], rfl, rfl, fun _ _ h => h, by simp, by simp, by simp [hX.1]⟩
  | c :: cs, vs, K2, K1, out, hK, hX, h => by
    simp only [XRs] at hX
    obtain ⟨v, vs', n1, n2, rfl, h2, h3, h4⟩ := hX
    obtain ⟨rfl, rfl⟩ := List.append_eq_nil_iff.1 h2.symm
    have plain : c.closed = true → ((absorb K2 cs).map fun p => (p.1, c :: p.2)) = some (K1, out) → ∃ nb, XRs w (OO K ρ Y) EN out (v :: vs') nb ∧ out.length = (c :: cs).length ∧ K1.length = K2.length ∧ (∀ i e, kg K1 i = some e → kg K2 i = some e) ∧ (∀ x ∈ nb, ∃ j e, kg K2 j = some e ∧ kg K1 j = none ∧ x ∈ fp ρ j) ∧ nb.Nodup ∧ ∀ u ∈ v :: vs', oneCell u = true := by
      intro hc h
      obtain ⟨⟨K3, o3⟩, h5, h6⟩ := Option.map_eq_some_iff.1 h
      injection h6 with e1 e2; subst e1 e2
      obtain ⟨nb, g1, g2, g3, g4, g5, g6, g7⟩ := absorb_ok hS hK h4 h5
      refine ⟨nb, ?_, by simp [g2], g3, g4, g5, g6, fun u hu => by rcases List.mem_cons.1 hu with rfl | hu; exact cell_one (closed_cellK hc) h3; exact g7 u hu⟩
      simp only [XRs]
      exact ⟨v, vs', [], nb, rfl, rfl, XR_closed hc h3, g1⟩
    by_cases hsl : ∃ j, c = .sl j
    · obtain ⟨j, rfl⟩ := hsl
      simp only [absorb] at h
      split at h
      · rename_i m rows hj
        obtain ⟨⟨K3, o3⟩, h5, h6⟩ := Option.map_eq_some_iff.1 h
        injection h6 with e1 e2; subst e1 e2
        have hjl := kg_lt hj
        have hsub : ∀ i e, kg (K2.set j none) i = some e → i ≠ j ∧ kg K2 i = some e := fun i e hi => by
          rw [kg_set _ _ _ _ hjl] at hi
          by_cases hij : i = j
          · rw [if_pos hij] at hi; cases hi
          · rw [if_neg hij] at hi; exact ⟨hij, hi⟩
        obtain ⟨nb, g1, g2, g3, g4, g5, g6, g7⟩ := absorb_ok hS (fun i e hi => hK i e (hsub i e hi).2) h4 h5
        have hjK := hK j _ hj
        obtain ⟨hown, hone⟩ := own_of_sl hS hjK h3 (E := EN)
        refine ⟨fp ρ j ++ nb, ?_, by simp [g2], by simpa using g3, fun i e hi => (hsub i e (g4 i e hi)).2, ?_, ?_, fun u hu => by rcases List.mem_cons.1 hu with rfl | hu; exact hone; exact g7 u hu⟩
        · simp only [XRs]
          exact ⟨v, vs', fp ρ j, nb, rfl, rfl, hown, g1⟩
        · intro x hx
          rcases List.mem_append.1 hx with hx | hx
          · refine ⟨j, _, hj, ?_, hx⟩
            cases h7 : kg K3 j with
            | none => rfl
            | some e => exact absurd rfl (hsub j e (g4 j e h7)).1
          · obtain ⟨i, e, h7, h8, h9⟩ := g5 x hx
            exact ⟨i, e, (hsub i e h7).2, h8, h9⟩
        · rw [List.nodup_append]
          refine ⟨hS.sees.nd j _ hjK, g6, fun x hx y hy hxy => ?_⟩
          subst hxy
          obtain ⟨i, e, h7, h8, h9⟩ := g5 x hy
          obtain ⟨h10, h11⟩ := hsub i e h7
          exact hS.sees.dj i e j _ x (hK i e h11) hjK h10 h9 hx
      · cases h
    · have hab : absorb K2 (c :: cs) = if c.closed = true then (absorb K2 cs).map (fun p => (p.1, c :: p.2)) else none := by
        cases c <;> first | rfl | (exact absurd ⟨_, rfl⟩ hsl)
      rw [hab] at h
      split at h
      · exact plain (by assumption) h
      · cases h

theorem rowsOf_len {m : Nat} : ∀ (l : Nat) (cs : List AV), cs.length = l * m → (rowsOf m l cs).length = l ∧ (∀ r ∈ rowsOf m l cs, r.length = m) ∧ (rowsOf m l cs).flatten = cs
  | 0, cs, h => by simp at h; simp [rowsOf, h]
  | l + 1, cs, h => by
    rw [Nat.succ_mul] at h
    obtain ⟨h1, h2, h3⟩ := rowsOf_len (m := m) l (cs.drop m) (by simp; omega)
    refine ⟨by simp [rowsOf, h1], fun r hr => ?_, by simp [rowsOf, h3]⟩
    simp only [rowsOf, List.mem_cons] at hr
    rcases hr with rfl | hr
    · simp; omega
    · exact h2 r hr

theorem tse_at {t e m : Nat} {z : List AV} (h : tse P t = some (e, m, z)) : P.underlying t = some (.slice e) ∧ tz P e = some m ∧ tzc P e = some z ∧ z.length = m ∧ 0 < m := by
  unfold tse at h
  split at h
  · rename_i e' hu
    split at h
    · rename_i m' z' h1 h2
      split at h
      · rename_i hc
        injection h with h; injection h with a1 h; injection h with a2 a3; subst a1 a2 a3
        exact ⟨hu, h1, h2, hc.1, hc.2⟩
      · cases h
    · cases h
  · cases h

theorem rep_at {α : Type} {z : List α} (h0 : 0 < z.length) : ∀ (l i : Nat), i < l * z.length → (List.replicate l z).flatten[i]? = z[i % z.length]?
  | 0, i, h => by simp at h
  | l + 1, i, h => by
    rw [Nat.succ_mul] at h
    rw [List.replicate_succ, List.flatten_cons]
    by_cases hi : i < z.length
    · rw [List.getElem?_append_left hi, Nat.mod_eq_of_lt hi]
    · rw [List.getElem?_append_right (by omega), rep_at (z := z) h0 l (i - z.length) (by omega), ← Nat.mod_eq_sub_mod (by omega)]
theorem rep_length {α : Type} (z : List α) (l : Nat) : (List.replicate l z).flatten.length = l * z.length := by simp
/-- The cells of l zeros, as the machine lays them. -/
theorem zeros_ok {zv : Array Value} (h0 : 0 < zv.size) (l : Nat) : ((Array.range (l * zv.size)).map (fun i => zv[i % zv.size]!)).toList = (List.replicate l zv.toList).flatten := by
  apply List.ext_getElem?
  intro i
  by_cases hi : i < l * zv.size
  · have h := rep_at (z := zv.toList) (by simpa using h0) l i (by simpa using hi)
    rw [h]
    have hm : i % zv.size < zv.size := Nat.mod_lt _ h0
    simp [hi, hm]
  · rw [List.getElem?_eq_none (by simp; omega), List.getElem?_eq_none (by rw [rep_length]; simp; omega)]
theorem XRs_rep {O : Nat → Prop} {E : EI} {z : List AV} {zv : List Value} (h : XRs w O E z zv []) : ∀ l, XRs w O E (zeros l z) (List.replicate l zv).flatten []
  | 0 => by simp [zeros, XRs]
  | l + 1 => by
    have := XRs_append h (XRs_rep h l)
    simpa [zeros, List.replicate_succ] using this

theorem sl_new {K' : KS} {ρ' : RHO} {w' : World} {j b len : Nat} {e : Ent} (s1 : Sim n Y w0 F0 ρ' f K' a w') (hj : kg K' j = some e) (s2 : (EK K' ρ').of j = some (some b, e.n, e.rows.length)) (s3 : (EK K' ρ').sz = j + 1)
    (hl : e.rows.length = len) (hc : len * e.n ≤ e.rows.length * e.n) {O : Nat → Prop} : XR w' O (EK K' ρ') (.sl j) (.slice (some ⟨b, 0, none⟩) len len) [] := by
  simp only [XR, true_and]
  refine ⟨by rw [s3]; omega, fun m' len' hE => (by rw [s2] at hE; cases hE), fun bl m' len' hE => ?_⟩
  rw [s2] at hE
  injection hE with hE; injection hE with e1 hE; injection hE with e2 e3; injection e1 with e1
  subst e1 e2 e3
  refine ⟨len, by rw [hl], by omega, ?_⟩
  have hρ : (ρ' j).1 = some b := by
    simp only [EK, hj, Option.map_some] at s2
    injection s2 with s2; injection s2 with s2
  have hreg := s1.sees.reg j _ hj
  rw [hρ] at hreg
  exact hreg.1.le hc

theorem xbslice_ok (hS : Sim n Y w0 F0 ρ f K a w) {parts : List (Nat × AV)} {pv : Array (Nat × Value)} {k : AV → KS → Prop} {l} {t : TypeId} {len : Nat} (h : xbslice K (tse P t) len parts k l)
    (hi : parts.map (·.1) = pv.toList.map (·.1)) (hp : ∀ (i : Nat) (p : Nat × AV) (q : Nat × Value), parts[i]? = some p → pv.toList[i]? = some q → XR w (OO K ρ Y) (EK K ρ) p.2 q.2 []) :
    ∃ y w', (Instr.buildSlice t len pv).run P w = .ok y w' ∧ Out n Y w0 F0 f a k y w' := by
  unfold xbslice at h
  split at h
  · rename_i e m z ht
    obtain ⟨hu, hz, hzc, hzl, hm⟩ := tse_at ht
    split at h
    · rename_i hl0
      subst hl0
      split at h
      · have hpv : pv = #[] := by
          have : pv.toList.map (·.1) = [] := hi.symm
          simpa using this
        subst hpv
        obtain ⟨ρ', s1, s2, s3⟩ := hS.push (K1 := K) rfl (fun _ _ h => h) (e := .lst m []) (nb := []) (c := #[]) (el := e) (vs := []) (by simp [Ent.rows]) (by simp [Ent.rows, XRs]) (by simp) (by simp) (by simp [Ent.rows]) (by simp) (by simp) (fun h => by cases h)
        refine ⟨.slice (some ⟨w.heap.size, 0, none⟩) 0 0, _, ?_, _, _, ρ', s1, ?_, h⟩
        · simp [Instr.buildSlice, run_under hu, run_sizeOf hz, newRow_run, Instr.fill]
          have hz0 : (Array.map (fun (x : Nat) => (default : Value)) (Array.range 0)) = #[] := Array.eq_empty_of_size_eq_zero (by simp)
          rw [hz0]
        · exact sl_new s1 (by rw [kg_push]; simp) s2 s3 (by simp [Ent.rows]) (by simp [Ent.rows, Ent.n])
      · exact h.elim
    · rename_i hl0
      split at h
      rename_i hlen
      split at h
      · rename_i cs hf
        split at h
        · rename_i K1 out hab
          obtain ⟨zv, hzv, rfl, _⟩ := tzc_at hzc
          have hzs : zv.cells.size = m := by simpa using hzl
          have hX0 : XRs w (OO K ρ Y) (EK K ρ) (zeros len (zv.cells.toList.map cv)) ((Array.range (len * m)).map (fun i => zv.cells[i % zv.cells.size]!)).toList [] := by
            rw [← hzs, zeros_ok (by omega)]
            exact XRs_rep (cvs_ok _) len
          obtain ⟨us, h1, h2, h3⟩ := xfill_ok (vs := (Array.range (len * m)).map (fun i => zv.cells[i % zv.cells.size]!)) hi hp hX0 hf
          obtain ⟨nb, g1, g2, g3, g4, g5, g6, g7⟩ := absorb_ok hS (fun _ _ h => h) h2 hab
          have hol : out.length = len * m := by rw [g2, h3]; simp [zeros, hzs]
          obtain ⟨r1, r2, r3⟩ := rowsOf_len len out hol
          have hul := XRs_length g1
          simp at hul
          obtain ⟨ρ', s1, s2, s3⟩ := hS.push (K1 := K1) g3 g4 (e := .lst m (rowsOf m len out)) (nb := nb) (c := us) (el := e) (vs := us.toList) r2 (by simpa [Ent.rows, Ent.E, r3] using g1) (fun i hi => by simp) g7 (by simp only [Ent.rows, Ent.n, r1]; omega) g5 g6 (fun h => by cases h)
          refine ⟨.slice (some ⟨w.heap.size, 0, none⟩) len len, _, ?_, _, _, ρ', s1, ?_, h⟩
          · have hlm : ¬ (len * m = 0) := by rw [Nat.mul_eq_zero]; omega
            simp only [Instr.buildSlice, Sem.run_bind, run_under hu, Result.andThen_ok, run_sizeOf hz, hlm, if_false, Sem.run_ite, show ¬ (2 ^ 24 < len * m) by omega, gt_iff_lt, run_zero hzv, h1, newRow_run, Sem.run_pure]
          · exact sl_new s1 (by rw [kg_push, g3]; simp) s2 s3 (by simp [Ent.rows, r1]) (by simp [Ent.rows, Ent.n, r1])
        · exact h.elim
      · exact h.elim
      · exact h.elim
  · exact h.elim
end
end Go.Proofs.Ytomlnigcnkjelaa.Am
