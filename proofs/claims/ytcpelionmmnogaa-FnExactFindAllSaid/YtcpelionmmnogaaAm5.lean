/- An abstract machine for the walks: its steps that make memory are right. No condition. -/
import Derived.Test.YtcpelionmmnogaaAm4
namespace Go.Proofs.Ytcpelionmmnogaa.Am
open Go
set_option linter.unusedVariables false
set_option linter.unusedSimpArgs false
section
variable {P : Program} {n : NE} {Y : Nat → Prop} {w0 : World} {F0 : Nat → Prop} {ρ : RHO} {f : Fr} {K : KS} {a : Act} {w : World}

theorem Sim.add [Wd] (hS : Sim n Y w0 F0 ρ f K a w) {K1 : KS} (hl : K1.length = K.length) (hk : ∀ i e, kg K1 i = some e → kg K i = some e) {e : Ent} {b : Nat} {nb : List Nat} {w' : World}
    (hsz : w.heap.size ≤ w'.heap.size) (hbl : ∀ x, x ≠ b → x < w.heap.size → w'.heap[x]? = w.heap[x]?) (hwh : ∀ x m, Whole w x m → Whole w' x m)
    (hb : b = w.heap.size ∨ ∃ j e, kg K j = some e ∧ kg K1 j = none ∧ b ∈ fp ρ j) (hnb : ∀ x ∈ nb, ∃ j e, kg K j = some e ∧ kg K1 j = none ∧ x ∈ fp ρ j) (hnd : (b :: nb).Nodup)
    (hW : Whole w' b (e.rows.length * e.n)) (hR : RR w' (fun x => OO K ρ Y x ∨ x = b) (e.E (EK K ρ)) e.n b 0 e.rows nb) (hbx : e.isBox = true → nb = [])
    (hos : w'.os = w.os) (hta : w'.tape = w.tape) (hou : w'.output = w.output) :
    ∃ ρ', Sim n Y w0 F0 ρ' f (K1 ++ [some e]) a w' ∧ (EK (K1 ++ [some e]) ρ').of K.length = some (some b, e.n, e.rows.length) ∧ (EK (K1 ++ [some e]) ρ').sz = K.length + 1 := by
  let ρ' : RHO := fun i => if i = K.length then (some b, nb) else ρ i
  have hg : ∀ i, kg (K1 ++ [some e]) i = if i = K.length then some e else kg K1 i := fun i => by rw [kg_push, hl]
  have hKn : kg K K.length = none := by simp [kg, List.getD]
  have hkl : ∀ i e0, kg K1 i = some e0 → i ≠ K.length := fun i e0 h h' => by subst h'; have := hk _ _ h; rw [hKn] at this; cases this
  have hO : ∀ x, OO (K1 ++ [some e]) ρ' Y x → OO K ρ Y x ∨ x = b := by
    rintro x (h | ⟨i, e0, hi, hx⟩)
    · exact .inl (.inl h)
    · rw [hg] at hi
      by_cases h : i = K.length
      · subst h
        simp only [fp, ρ', if_true, Option.toList, List.singleton_append] at hx
        rcases List.mem_cons.1 hx with rfl | hx
        · exact .inr rfl
        · obtain ⟨j, e1, h1, _, h2⟩ := hnb x hx
          exact .inl (.inr ⟨j, e1, h1, h2⟩)
      · rw [if_neg h] at hi
        exact .inl (.inr ⟨i, e0, hk _ _ hi, by simpa [fp, ρ', h] using hx⟩)
  have hbO : ∀ x, x < w.heap.size → x = b → OO K ρ Y x := fun x hx h => by
    subst h
    rcases hb with hb | ⟨j, e1, h1, _, h2⟩
    · omega
    · exact .inr ⟨j, e1, h1, h2⟩
  have hei : ∀ j p, j < (EK K ρ).sz → (EK (K1 ++ [some e]) ρ').of j = some p → (EK K ρ).of j = some p := by
    intro j p hj hp
    simp only [EK] at hj hp ⊢
    rw [hg] at hp
    have : j ≠ K.length := by omega
    rw [if_neg this] at hp
    cases h1 : kg K1 j with
    | none => rw [h1] at hp; cases hp
    | some e1 => rw [h1] at hp; rw [hk _ _ h1]; simpa [ρ', this] using hp
  have same : Same (OO K ρ Y) (EK K ρ) w (OO (K1 ++ [some e]) ρ' Y) (EK (K1 ++ [some e]) ρ') w' := by
    refine ⟨hsz, fun x hx hlt => hbl x (fun h => hx (hbO x hlt h)) hlt, fun x hx hlt h => ?_, by simp [EK, hl], hei, fun _ _ _ _ _ _ _ h => hwh _ _ h⟩
    rcases hO x h with h | h
    · exact hx h
    · exact hx (hbO x hlt h)
  refine ⟨ρ', hS.lift same K.length ?_ ?_ ?_, ?_, by simp [EK, hl]⟩
  · intro i e0 hi hij
    rw [hg, if_neg hij] at hi
    refine ⟨hk _ _ hi, by simp [ρ', hij], fun x hx => hbl x (fun h => ?_) (hS.sees.lt i e0 x (hk _ _ hi) hx)⟩
    subst h
    rcases hb with hb | ⟨j, e1, h1, h2, h3⟩
    · have := hS.sees.lt i e0 x (hk _ _ hi) hx; omega
    · have hij' : i ≠ j := fun h => by subst h; rw [h2] at hi; cases hi
      exact hS.sees.dj i e0 j e1 x (hk _ _ hi) h1 hij' hx h3
  · intro e0 h0
    rw [hg, if_pos rfl] at h0
    injection h0 with h0; subst h0
    have e1 : (ρ' K.length) = (some b, nb) := by simp [ρ']
    simp only [e1, fp, Option.toList, List.singleton_append]
    refine ⟨Reg.at rfl ⟨hW, ?_, hbx⟩, hnd, fun x hx => ?_⟩
    · have hw : Same (fun x => OO K ρ Y x ∨ x = b) (e.E (EK K ρ)) w' (OO (K1 ++ [some e]) ρ' Y) (e.E (EK (K1 ++ [some e]) ρ')) w' := by
        have h1 : Same (fun x => OO K ρ Y x ∨ x = b) (EK K ρ) w' (OO (K1 ++ [some e]) ρ' Y) (EK (K1 ++ [some e]) ρ') w' :=
          ⟨Nat.le_refl _, fun _ _ _ => rfl, fun x hx _ h => hx (hO x h), by simp [EK, hl], hei, fun _ _ _ _ _ _ _ h => h⟩
        cases e with
        | box cs => exact h1
        | lst m rows => exact h1.en
      exact RR.mono _ hw _ _ _ rfl (fun _ _ => rfl) hR
    · rcases List.mem_cons.1 hx with rfl | hx
      · refine ⟨hW.lt, ?_⟩
        rcases hb with hb | ⟨j, e1, h1, h2, h3⟩
        · exact .inl (by omega)
        · have : kg (K1 ++ [some e]) j = none := by
            rw [hg]
            have : j ≠ K.length := fun h => by subst h; rw [hKn] at h1; cases h1
            rw [if_neg this]; exact h2
          exact .inr ⟨j, e1, h1, h3, .inr this⟩
      · obtain ⟨j, e1, h1, h2, h3⟩ := hnb x hx
        have h4 := hS.sees.lt j e1 x h1 h3
        have : kg (K1 ++ [some e]) j = none := by
          rw [hg]
          have : j ≠ K.length := fun h => by subst h; rw [hKn] at h1; cases h1
          rw [if_neg this]; exact h2
        exact ⟨by omega, .inr ⟨j, e1, h1, h3, .inr this⟩⟩
  · refine hS.ext.trans (G := fun x => x = b) ⟨hos, hta, hou, hsz, fun x hx h => hbl x h hx, hwh⟩ (fun _ h => h) (fun x hx h => ?_)
    subst h
    rcases hb with hb | ⟨j, e1, h1, h2, h3⟩
    · have := hS.ext.size; omega
    · rcases hS.new j e1 _ h1 h3 with h | h
      · exact h
      · omega
  · simp [EK, hg, ρ']

/-- The world behind a new row of cells. -/
def wnew (w : World) (c : Array Value) (el : TypeId) : World := { w with heap := w.heap.push (.cells c el) }
theorem wnew_old (w : World) (c : Array Value) (el : TypeId) (x : Nat) (h : x < w.heap.size) : (wnew w c el).heap[x]? = w.heap[x]? := by
  show (w.heap.push _)[x]? = _
  rw [Array.getElem?_push, if_neg (by omega)]
theorem wnew_whole {w : World} {c : Array Value} {el : TypeId} {x m : Nat} (h : Whole w x m) : Whole (wnew w c el) x m := h.same (wnew_old _ _ _ _ h.lt)
theorem wnew_here (w : World) (c : Array Value) (el : TypeId) : (wnew w c el).heap[w.heap.size]? = some (.cells c el (0, 0)) := by
  show (w.heap.push _)[w.heap.size]? = _
  rw [Array.getElem?_push, if_pos rfl]

theorem RR_mk {O : Nat → Prop} {E : EI} {m : Nat} : ∀ {rs : List (List AV)} {bl off : Nat} {nb : List Nat} {vs : List Value}, (∀ r ∈ rs, r.length = m) →
    (∀ i, i < vs.length → w.cell? ⟨bl, off + i, none⟩ = vs[i]?) → (∀ v ∈ vs, oneCell v = true) → XRs w O E rs.flatten vs nb → RR w O E m bl off rs nb
  | [], bl, off, nb, vs, _, _, _, h => by simp [XRs] at h; simp [RR, h.2]
  | r :: rs, bl, off, nb, vs, hr, hc, ho, h => by
    have hrl := hr r (by simp)
    obtain ⟨n1, n2, rfl, h1, h2⟩ := XRs_split m h
    simp only [List.flatten_cons] at h1 h2
    rw [List.take_append_of_le_length (by omega), List.take_of_length_le (by omega)] at h1
    rw [List.drop_append_of_le_length (by omega), List.drop_of_length_le (by omega), List.nil_append] at h2
    have hl := XRs_length h
    simp at hl
    simp only [RR]
    refine ⟨n1, n2, rfl, hrl, CR_mk (vs := vs.take m) (fun i hi => ?_) (fun v hv => ho v (List.mem_of_mem_take hv)) h1, RR_mk (vs := vs.drop m) (fun r hr' => hr r (by simp [hr'])) (fun i hi => ?_) (fun v hv => ho v (List.mem_of_mem_drop hv)) h2⟩
    · rw [hc i (by omega), List.getElem?_take, if_pos (by omega)]
    · rw [List.length_drop] at hi
      have := hc (m + i) (by omega)
      rw [Nat.add_assoc, this, List.getElem?_drop]

/-- A new region out of values of the frame: those that are regions themselves are taken in, and are no more. -/
theorem Sim.push [Wd] (hS : Sim n Y w0 F0 ρ f K a w) {K1 : KS} (hl : K1.length = K.length) (hk : ∀ i e, kg K1 i = some e → kg K i = some e) {e : Ent} {nb : List Nat} {c : Array Value} {el : TypeId} {vs : List Value}
    (hrow : ∀ r ∈ e.rows, r.length = e.n) (hX : XRs w (OO K ρ Y) (e.E (EK K ρ)) e.rows.flatten vs nb) (hc : ∀ i, i < vs.length → c[i]? = vs[i]?) (ho : ∀ v ∈ vs, oneCell v = true) (hcs : e.rows.length * e.n ≤ c.size)
    (hnb : ∀ x ∈ nb, ∃ j e, kg K j = some e ∧ kg K1 j = none ∧ x ∈ fp ρ j) (hnd : nb.Nodup) (hbx : e.isBox = true → nb = []) :
    ∃ ρ', Sim n Y w0 F0 ρ' f (K1 ++ [some e]) a (wnew w c el) ∧ (EK (K1 ++ [some e]) ρ').of K.length = some (some w.heap.size, e.n, e.rows.length) ∧ (EK (K1 ++ [some e]) ρ').sz = K.length + 1 := by
  have hlt : ∀ x ∈ nb, x < w.heap.size := fun x hx => by
    obtain ⟨j, e1, h1, _, h2⟩ := hnb x hx
    exact hS.sees.lt j e1 x h1 h2
  have hsz : w.heap.size ≤ (wnew w c el).heap.size := by simp [wnew]
  refine hS.add hl hk hsz (fun x _ hx => wnew_old _ _ _ _ hx) (fun x m h => wnew_whole h) (.inl rfl) hnb ?_ ⟨c, el, wnew_here _ _ _, hcs⟩ ?_ hbx rfl rfl rfl
  · rw [List.nodup_cons]; exact ⟨fun h => by have := hlt _ h; omega, hnd⟩
  · have hs : Same (OO K ρ Y) (e.E (EK K ρ)) w (fun x => OO K ρ Y x ∨ x = w.heap.size) (e.E (EK K ρ)) (wnew w c el) :=
      ⟨hsz, fun x _ hx => wnew_old _ _ _ _ hx, fun x hx hlt h => by rcases h with h | h; exact hx h; omega, Nat.le_refl _, fun _ _ _ h => h, fun _ _ _ _ _ _ _ h => wnew_whole h⟩
    refine RR_mk hrow (vs := vs) (fun i hi => ?_) ho (XRs.mono _ hs _ _ (fun b hb => wnew_old _ _ _ _ (hlt b hb)) hX)
    rw [Nat.zero_add]
    simp only [World.cell?, wnew_here]
    simpa using hc i hi

theorem newRow_run (t : TypeId) (c : Array Value) (w : World) : (newRow t c).run P w = .ok ⟨w.heap.size, 0, none⟩ (wnew w c t) := by
  simp [newRow, wnew]

theorem flat1 (cs : List AV) : [cs].flatten = cs := by simp

theorem box_ok [Wd] (hS : Sim n Y w0 F0 ρ f K a w) {cs : List AV} {vs : List Value} (hX : XRs w (OO K ρ Y) (EK K ρ) cs vs []) (ho : ∀ v ∈ vs, oneCell v = true) (t : TypeId) :
    ∃ ρ', Sim n Y w0 F0 ρ' f (K ++ [some (.box cs)]) a (wnew w vs.toArray t) ∧ XR (wnew w vs.toArray t) (OO (K ++ [some (.box cs)]) ρ' Y) (EK (K ++ [some (.box cs)]) ρ') (.ptr K.length 0 0) (.pointer (some ⟨w.heap.size, 0, none⟩)) [] := by
  have hl := XRs_length hX
  obtain ⟨ρ', h1, h2, h3⟩ := hS.push (K1 := K) rfl (fun _ _ h => h) (e := .box cs) (nb := []) (c := vs.toArray) (el := t) (vs := vs) (by simp [Ent.rows, Ent.n]) (by simpa [Ent.rows, Ent.E] using hX) (fun i hi => by simp) ho (by simp [Ent.rows, Ent.n, hl]) (by simp) (by simp) (fun _ => rfl)
  refine ⟨ρ', h1, ?_⟩
  simp only [XR, true_and]
  refine ⟨by rw [h3]; omega, fun m len hE => (by rw [h2] at hE; cases hE), fun bl m len hE => ?_⟩
  rw [h2] at hE
  injection hE with hE; injection hE with e1 hE; injection e1 with e1
  subst e1; simp

theorem xbox_ok [Wd] (hS : Sim n Y w0 F0 ρ f K a w) {v : AV} {k : AV → KS → Prop} {l} {x : Value} {t : TypeId} (h : xbox K v k l) (hx : XR w (OO K ρ Y) (EK K ρ) v x []) :
    ∃ y w', (Instr.box t x).run P w = .ok y w' ∧ Out n Y w0 F0 f a k y w' := by
  have key : ∀ cs : List AV, XRs w (OO K ρ Y) (EK K ρ) cs x.cells.toList [] → (∀ v ∈ x.cells.toList, oneCell v = true) → xletK (K ++ [some (.box cs)]) (fun K' => k (.ptr K.length 0 0) K') () → ∃ y w', (Instr.box t x).run P w = .ok y w' ∧ Out n Y w0 F0 f a k y w' := by
    intro cs hX ho hk
    obtain ⟨ρ', h1, h2⟩ := box_ok hS hX ho t
    refine ⟨_, _, ?_, _, _, ρ', h1, h2, hk⟩
    simp [Instr.box, newVar, newRow_run]
  unfold xbox at h
  split at h
  · split at h
    · simp only [XR] at hx
      obtain ⟨vs, rfl, hX⟩ := hx
      exact key _ hX (XRs_one (by assumption) hX) h
    · exact h.elim
  · split at h
    · rename_i hc
      have h1 := cell_one hc hx
      refine key _ ?_ (by rw [cells_one h1]; simp [h1]) h
      rw [cells_one h1]
      simp only [XRs]
      exact ⟨x, [], [], [], rfl, rfl, hx, by simp⟩
    · exact h.elim

theorem cvs_ok {O : Nat → Prop} {E : EI} : ∀ (vs : List Value), XRs w O E (vs.map cv) vs []
  | [] => by simp [XRs]
  | v :: vs => by
    simp only [List.map_cons, XRs]
    exact ⟨v, vs, [], [], rfl, rfl, cv_ok _ _ _ _, cvs_ok vs⟩
theorem run_zero {t : TypeId} {z : Value} (h : tzero P t = some z) (w : World) : (zeroValue t).run P w = .ok z w := by
  unfold tzero at h
  cases hi : P.info? t with
  | none => rw [hi] at h; cases h
  | some i => rw [hi] at h; simp at h; simp [zeroValue, typeInfo, hi, h]
theorem cv_one {v : Value} (h : (cv v).closed = true) : oneCell v = true := by
  unfold cv at h
  split at h <;> first | rfl | (simp [AV.closed] at h; done)
theorem tzc_at {t : TypeId} {cs : List AV} (h : tzc P t = some cs) : ∃ z, tzero P t = some z ∧ cs = z.cells.toList.map cv ∧ ∀ v ∈ z.cells.toList, oneCell v = true := by
  unfold tzc at h
  cases hz : tzero P t with
  | none => rw [hz] at h; cases h
  | some z =>
    rw [hz] at h
    simp only [Option.bind_some] at h
    split at h
    · rename_i hc
      injection h with h
      refine ⟨z, rfl, h.symm, fun v hv => cv_one ?_⟩
      rw [List.all_eq_true] at hc
      exact hc _ (List.mem_map_of_mem hv)
    · cases h

theorem xalloc_ok [Wd] (hS : Sim n Y w0 F0 ρ f K a w) {k : AV → KS → Prop} {l} {t : TypeId} (h : xalloc K (tzc P t) k l) :
    ∃ y w', (Instr.alloc t true (.tuple #[])).run P w = .ok y w' ∧ Out n Y w0 F0 f a k y w' := by
  unfold xalloc at h
  split at h
  · rename_i cs hc
    obtain ⟨z, hz, rfl, ho⟩ := tzc_at hc
    obtain ⟨ρ', h1, h2⟩ := box_ok hS (cvs_ok z.cells.toList) ho t
    refine ⟨_, _, ?_, _, _, ρ', h1, h2, h⟩
    simp [Instr.alloc, run_zero hz, newVar, newRow_run]
  · exact h.elim

theorem acells_ok {O : Nat → Prop} {v : AV} {x : Value} {ds : List AV} (h : acells K v = some ds) (hx : XR w O (EK K ρ) v x []) : XRs w O (EK K ρ) ds x.cells.toList [] := by
  have key : cellK K v = true → XRs w O (EK K ρ) [v] x.cells.toList [] := fun hc => by
    rw [cells_one (cell_one hc hx)]
    simp only [XRs]
    exact ⟨x, [], [], [], rfl, rfl, hx, by simp⟩
  unfold acells at h
  split at h
  · injection h with h; subst h
    simp only [XR] at hx
    obtain ⟨vs, rfl, hX⟩ := hx
    exact hX
  · split at h
    · injection h with h; subst h; exact key (by assumption)
    · cases h

theorem foldl_set : ∀ (us : List Value) (i : Nat) (cs : Array Value) (o : Nat), o + i + us.length ≤ cs.size →
    ((us.zipIdx i).foldl (fun cs (cj : Value × Nat) => cs.setIfInBounds (o + cj.2) cj.1) cs).toList = cs.toList.take (o + i) ++ us ++ cs.toList.drop (o + i + us.length)
  | [], i, cs, o, h => by simp
  | u :: us, i, cs, o, h => by
    simp only [List.zipIdx_cons, List.foldl_cons]
    simp at h
    rw [foldl_set us (i + 1) _ o (by simp; omega)]
    have hp : o + i < cs.toList.length := by simp; omega
    rw [Array.toList_setIfInBounds, List.set_eq_take_append_cons_drop, if_pos hp, show o + (i + 1) = o + i + 1 by omega]
    have hl : (cs.toList.take (o + i)).length = o + i := by simp; omega
    have e1 : (cs.toList.take (o + i) ++ u :: cs.toList.drop (o + i + 1)).take (o + i + 1) = cs.toList.take (o + i) ++ [u] := by
      rw [List.take_append, hl, List.take_of_length_le (by omega), show o + i + 1 - (o + i) = 1 by omega]; simp
    have e2 : (cs.toList.take (o + i) ++ u :: cs.toList.drop (o + i + 1)).drop (o + i + 1 + us.length) = cs.toList.drop (o + i + (u :: us).length) := by
      rw [List.drop_append, hl, List.drop_of_length_le (by omega), show o + i + 1 + us.length - (o + i) = us.length + 1 by omega]
      simp only [List.drop_succ_cons, List.drop_drop, List.nil_append, List.length_cons]
      congr 1; omega
    rw [e1, e2]; simp

theorem xfill_ok {place : Nat → Option (Nat × Nat)} {O : Nat → Prop} : ∀ {parts : List (Nat × AV)} {pv : List (Nat × Value)} {cs : List AV} {vs : Array Value} {out : List AV},
    (parts.map (·.1) = pv.map (·.1)) → (∀ (i : Nat) (p : Nat × AV) (q : Nat × Value), parts[i]? = some p → pv[i]? = some q → XR w O (EK K ρ) p.2 q.2 []) → XRs w O (EK K ρ) cs vs.toList [] → xfill K place cs parts = some out →
    ∃ us, Instr.fill place vs pv = some us ∧ XRs w O (EK K ρ) out us.toList [] ∧ out.length = cs.length
  | [], pv, cs, vs, out, hi, _, hX, h => by
    simp at hi; subst hi
    simp [xfill] at h; subst h
    exact ⟨vs, by simp [Instr.fill], hX, rfl⟩
  | (i, v) :: parts, [], _, _, _, hi, _, _, _ => by simp at hi
  | (i, v) :: parts, (i', x) :: pv, cs, vs, out, hi, hp, hX, h => by
    simp at hi
    obtain ⟨rfl, hi⟩ := hi
    simp only [xfill] at h
    split at h
    · rename_i o m ds h1 h2
      split at h
      · rename_i hc
        obtain ⟨rfl, hc⟩ := hc
        have hx := acells_ok h2 (hp 0 _ _ rfl rfl)
        have hxl := XRs_length hx
        have hvl := XRs_length hX
        simp at hxl hvl
        have hX' : XRs w O (EK K ρ) (putCells cs o ds) ((x.cells.zipIdx.foldl (fun cs (cj : Value × Nat) => cs.setIfInBounds (o + cj.2) cj.1) vs).toList) [] := by
          rw [← Array.foldl_toList, Array.toList_zipIdx, foldl_set _ 0 vs o (by simp; omega)]
          obtain ⟨n1, n2, h3, h4, h5⟩ := XRs_split o hX
          obtain ⟨rfl, rfl⟩ := List.append_eq_nil_iff.1 h3.symm
          obtain ⟨m1, m2, h6, h7, h8⟩ := XRs_split ds.length h5
          obtain ⟨rfl, rfl⟩ := List.append_eq_nil_iff.1 h6.symm
          have := XRs_append (XRs_append h4 hx) h8
          simpa [putCells, List.drop_drop, hxl, Nat.add_comm] using this
        obtain ⟨us, h6, h7, h8⟩ := xfill_ok (parts := parts) (pv := pv) hi (fun q p r hp' hq => hp (q + 1) p r (by simpa using hp') (by simpa using hq)) hX' h
        refine ⟨us, ?_, h7, by rw [h8]; simp [putCells]; omega⟩
        simp only [Instr.fill, h1]
        rw [if_neg (by simp; omega)]
        exact h6
      · cases h
    · cases h

theorem mapM_places {fs : Array Field} {p : List (Nat × Nat)} (h : places P fs = some p) (w : World) :
    (fs.mapM (m := Sem) fun fd => do pure (fd.offset, ← sizeOf fd.type)).run P w = .ok p.toArray w := by
  have key : ∀ (l : List Field) (p : List (Nat × Nat)), (l.mapM fun f => (tz P f.type).map fun m => (f.offset, m)) = some p →
      (l.mapM (m := Sem) fun fd => do pure (fd.offset, ← sizeOf fd.type)).run P w = .ok p w := by
    intro l
    induction l with
    | nil => intro p h; simp at h; subst h; simp
    | cons fd l ih =>
      intro p h
      simp only [List.mapM_cons, Option.bind_eq_bind, Option.bind_eq_some_iff, Option.map_eq_some_iff] at h
      obtain ⟨q, ⟨m, hm, rfl⟩, r, hr, h⟩ := h
      injection h with h; subst h
      simp only [List.mapM_cons, Sem.run_bind, run_sizeOf hm, Result.andThen_ok, ih r hr, Sem.run_pure]
  rw [Array.mapM_eq_mapM_toList]
  simp only [Sem.run_map]
  rw [key _ _ h]
  rfl

theorem xbuild_ok {O : Nat → Prop} {parts : List (Nat × AV)} {pv : Array (Nat × Value)} {k : AV → Prop} {l} {t : TypeId} (h : xbuild K (tbd P t) parts k l)
    (hi : parts.map (·.1) = pv.toList.map (·.1)) (hp : ∀ (i : Nat) (p : Nat × AV) (q : Nat × Value), parts[i]? = some p → pv.toList[i]? = some q → XR w O (EK K ρ) p.2 q.2 []) :
    ∃ v av, Yl P (Instr.build t pv) v ∧ XR w O (EK K ρ) av v [] ∧ k av := by
  unfold xbuild at h
  split at h
  · rename_i z p ht
    unfold tbd at ht
    split at ht
    · rename_i fs hu
      split at ht
      · rename_i z' p' h1 h2
        injection ht with e1 e2; subst e1 e2
        split at h
        · rename_i cs hf
          obtain ⟨zv, hz, rfl, _⟩ := tzc_at h1
          obtain ⟨us, h3, h4, h5⟩ := xfill_ok (vs := zv.cells) hi hp (cvs_ok _) hf
          refine ⟨.agg us, _, fun w => ?_, by simp only [XR]; exact ⟨us, rfl, h4⟩, h⟩
          have e : (fun (x : Nat) => (p'.toArray)[x]?) = (fun (x : Nat) => p'[x]?) := by funext x; simp
          simp only [Instr.build, Sem.run_bind, run_zero hz, Result.andThen_ok, run_under hu, mapM_places h2, e, h3, Sem.run_pure]
        · exact h.elim
      · cases ht
    · split at ht <;> cases ht
    · cases ht
  · rename_i z m ht
    unfold tbd at ht
    split at ht
    · split at ht <;> cases ht
    · rename_i ln e hu
      split at ht
      · rename_i z' m' h1 h2
        injection ht with e1 e2; subst e1 e2
        split at h
        · rename_i cs hf
          obtain ⟨zv, hz, rfl, _⟩ := tzc_at h1
          obtain ⟨us, h3, h4, h5⟩ := xfill_ok (vs := zv.cells) hi hp (cvs_ok _) hf
          refine ⟨.agg us, _, fun w => ?_, by simp only [XR]; exact ⟨us, rfl, h4⟩, h⟩
          simp [Instr.build, run_zero hz, run_under hu, run_sizeOf h2, h3]
        · exact h.elim
      · cases ht
    · cases ht
  · exact h.elim

theorem own_of_sl [Wd] (hS : Sim n Y w0 F0 ρ f K a w) {j m : Nat} {rows : List (List AV)} {v : Value} (hj : kg K j = some (.lst m rows)) (h : XR w (OO K ρ Y) (EK K ρ) (.sl j) v []) {E : EI} :
    XR w (OO K ρ Y) E (.own m rows) v (fp ρ j) ∧ oneCell v = true := by
  have hreg := hS.sees.reg j _ hj
  obtain ⟨ad, cap, hv, hc, hw⟩ := XR_sl_at hS hj h
  refine ⟨?_, by rw [hv]; rfl⟩
  simp only [XR, fp]
  rcases hw with ⟨h1, rfl, h0⟩ | ⟨b, h1, rfl, hw⟩
  · rw [h1] at hreg ⊢
    simp only [Ent.rows] at h0 hv
    subst h0
    exact .inl ⟨rfl, ⟨_, hv⟩, by simp [hreg.2]⟩
  · rw [h1] at hreg ⊢
    exact .inr ⟨b, _, cap, rfl, hv, hc, hw, hreg.2.1⟩

theorem absorb_ok [Wd] (hS : Sim n Y w0 F0 ρ f K a w) : ∀ {cs : List AV} {vs : List Value} {K2 K1 : KS} {out : List AV}, (∀ i e, kg K2 i = some e → kg K i = some e) → XRs w (OO K ρ Y) (EK K ρ) cs vs [] → absorb K2 cs = some (K1, out) →
    ∃ nb, XRs w (OO K ρ Y) EN out vs nb ∧ out.length = cs.length ∧ K1.length = K2.length ∧ (∀ i e, kg K1 i = some e → kg K2 i = some e) ∧ (∀ x ∈ nb, ∃ j e, kg K2 j = some e ∧ kg K1 j = none ∧ x ∈ fp ρ j) ∧ nb.Nodup ∧ ∀ v ∈ vs, oneCell v = true
  | [], vs, K2, K1, out, _, hX, h => by
    simp [absorb] at h; obtain ⟨rfl, rfl⟩ := h
    simp only [XRs] at hX
    exact ⟨[], by simp [XRs, hX.1], rfl, rfl, fun _ _ h => h, by simp, by simp, by simp [hX.1]⟩
  | c :: cs, vs, K2, K1, out, hK, hX, h => by
    simp only [XRs] at hX
    obtain ⟨v, vs', n1, n2, rfl, h2, h3, h4⟩ := hX
    obtain ⟨rfl, rfl⟩ := List.append_eq_nil_iff.1 h2.symm
    have plain : c.closed = true → ((absorb K2 cs).map fun p => (p.1, c :: p.2)) = some (K1, out) → ∃ nb, XRs w (OO K ρ Y) EN out (v :: vs') nb ∧ out.length = (c :: cs).length ∧ K1.length = K2.length ∧ (∀ i e, kg K1 i = some e → kg K2 i = some e) ∧ (∀ x ∈ nb, ∃ j e, kg K2 j = some e ∧ kg K1 j = none ∧ x ∈ fp ρ j) ∧ nb.Nodup ∧ ∀ u ∈ v :: vs', oneCell u = true := by
      intro hc h
      obtain ⟨⟨K3, o3⟩, h5, h6⟩ := Option.map_eq_some_iff.1 h
      injection h6 with e1 e2; subst e1 e2
      obtain ⟨nb, g1, g2, g3, g4, g5, g6, g7⟩ := absorb_ok hS hK h4 h5
      refine ⟨nb, ?_, by simp [g2], g3, g4, g5, g6, fun u hu => by rcases List.mem_cons.1 hu with rfl | hu; exact cell_one (closed_cellK hc) h3; exact g7 u hu⟩
      simp only [XRs]
      exact ⟨v, vs', [], nb, rfl, rfl, XR_closed hc h3, g1⟩
    by_cases hsl : ∃ j, c = .sl j
    · obtain ⟨j, rfl⟩ := hsl
      simp only [absorb] at h
      split at h
      · rename_i m rows hj
        obtain ⟨⟨K3, o3⟩, h5, h6⟩ := Option.map_eq_some_iff.1 h
        injection h6 with e1 e2; subst e1 e2
        have hjl := kg_lt hj
        have hsub : ∀ i e, kg (K2.set j none) i = some e → i ≠ j ∧ kg K2 i = some e := fun i e hi => by
          rw [kg_set _ _ _ _ hjl] at hi
          by_cases hij : i = j
          · rw [if_pos hij] at hi; cases hi
          · rw [if_neg hij] at hi; exact ⟨hij, hi⟩
        obtain ⟨nb, g1, g2, g3, g4, g5, g6, g7⟩ := absorb_ok hS (fun i e hi => hK i e (hsub i e hi).2) h4 h5
        have hjK := hK j _ hj
        obtain ⟨hown, hone⟩ := own_of_sl hS hjK h3 (E := EN)
        refine ⟨fp ρ j ++ nb, ?_, by simp [g2], by simpa using g3, fun i e hi => (hsub i e (g4 i e hi)).2, ?_, ?_, fun u hu => by rcases List.mem_cons.1 hu with rfl | hu; exact hone; exact g7 u hu⟩
        · simp only [XRs]
          exact ⟨v, vs', fp ρ j, nb, rfl, rfl, hown, g1⟩
        · intro x hx
          rcases List.mem_append.1 hx with hx | hx
          · refine ⟨j, _, hj, ?_, hx⟩
            cases h7 : kg K3 j with
            | none => rfl
            | some e => exact absurd rfl (hsub j e (g4 j e h7)).1
          · obtain ⟨i, e, h7, h8, h9⟩ := g5 x hx
            exact ⟨i, e, (hsub i e h7).2, h8, h9⟩
        · rw [List.nodup_append]
          refine ⟨hS.sees.nd j _ hjK, g6, fun x hx y hy hxy => ?_⟩
          subst hxy
          obtain ⟨i, e, h7, h8, h9⟩ := g5 x hy
          obtain ⟨h10, h11⟩ := hsub i e h7
          exact hS.sees.dj i e j _ x (hK i e h11) hjK h10 h9 hx
      · cases h
    · have hab : absorb K2 (c :: cs) = if c.closed = true then (absorb K2 cs).map (fun p => (p.1, c :: p.2)) else none := by
        cases c <;> first | rfl | (exact absurd ⟨_, rfl⟩ hsl)
      rw [hab] at h
      split at h
      · exact plain (by assumption) h
      · cases h

theorem rowsOf_len {m : Nat} : ∀ (l : Nat) (cs : List AV), cs.length = l * m → (rowsOf m l cs).length = l ∧ (∀ r ∈ rowsOf m l cs, r.length = m) ∧ (rowsOf m l cs).flatten = cs
  | 0, cs, h => by simp at h; simp [rowsOf, h]
  | l + 1, cs, h => by
    rw [Nat.succ_mul] at h
    obtain ⟨h1, h2, h3⟩ := rowsOf_len (m := m) l (cs.drop m) (by simp; omega)
    refine ⟨by simp [rowsOf, h1], fun r hr => ?_, by simp [rowsOf, h3]⟩
    simp only [rowsOf, List.mem_cons] at hr
    rcases hr with rfl | hr
    · simp; omega
    · exact h2 r hr

theorem tse_at {t e m : Nat} {z : List AV} (h : tse P t = some (e, m, z)) : P.underlying t = some (.slice e) ∧ tz P e = some m ∧ tzc P e = some z ∧ z.length = m ∧ 0 < m := by
  unfold tse at h
  split at h
  · rename_i e' hu
    split at h
    · rename_i m' z' h1 h2
      split at h
      · rename_i hc
        injection h with h; injection h with a1 h; injection h with a2 a3; subst a1 a2 a3
        exact ⟨hu, h1, h2, hc.1, hc.2⟩
      · cases h
    · cases h
  · cases h

theorem rep_at {α : Type} {z : List α} (h0 : 0 < z.length) : ∀ (l i : Nat), i < l * z.length → (List.replicate l z).flatten[i]? = z[i % z.length]?
  | 0, i, h => by simp at h
  | l + 1, i, h => by
    rw [Nat.succ_mul] at h
    rw [List.replicate_succ, List.flatten_cons]
    by_cases hi : i < z.length
    · rw [List.getElem?_append_left hi, Nat.mod_eq_of_lt hi]
    · rw [List.getElem?_append_right (by omega), rep_at (z := z) h0 l (i - z.length) (by omega), ← Nat.mod_eq_sub_mod (by omega)]
theorem rep_length {α : Type} (z : List α) (l : Nat) : (List.replicate l z).flatten.length = l * z.length := by simp
/-- The cells of l zeros, as the machine lays them. -/
theorem zeros_ok {zv : Array Value} (h0 : 0 < zv.size) (l : Nat) : ((Array.range (l * zv.size)).map (fun i => zv[i % zv.size]!)).toList = (List.replicate l zv.toList).flatten := by
  apply List.ext_getElem?
  intro i
  by_cases hi : i < l * zv.size
  · have h := rep_at (z := zv.toList) (by simpa using h0) l i (by simpa using hi)
    rw [h]
    have hm : i % zv.size < zv.size := Nat.mod_lt _ h0
    simp [hi, hm]
  · rw [List.getElem?_eq_none (by simp; omega), List.getElem?_eq_none (by rw [rep_length]; simp; omega)]
theorem XRs_rep {O : Nat → Prop} {E : EI} {z : List AV} {zv : List Value} (h : XRs w O E z zv []) : ∀ l, XRs w O E (zeros l z) (List.replicate l zv).flatten []
  | 0 => by simp [zeros, XRs]
  | l + 1 => by
    have := XRs_append h (XRs_rep h l)
    simpa [zeros, List.replicate_succ] using this

theorem sl_new [Wd] {K' : KS} {ρ' : RHO} {w' : World} {j b len : Nat} {e : Ent} (s1 : Sim n Y w0 F0 ρ' f K' a w') (hj : kg K' j = some e) (s2 : (EK K' ρ').of j = some (some b, e.n, e.rows.length)) (s3 : (EK K' ρ').sz = j + 1)
    (hl : e.rows.length = len) (hc : len * e.n ≤ e.rows.length * e.n) {O : Nat → Prop} : XR w' O (EK K' ρ') (.sl j) (.slice (some ⟨b, 0, none⟩) len len) [] := by
  simp only [XR, true_and]
  refine ⟨by rw [s3]; omega, fun m' len' hE => (by rw [s2] at hE; cases hE), fun bl m' len' hE => ?_⟩
  rw [s2] at hE
  injection hE with hE; injection hE with e1 hE; injection hE with e2 e3; injection e1 with e1
  subst e1 e2 e3
  refine ⟨len, by rw [hl], by omega, ?_⟩
  have hρ : (ρ' j).1 = some b := by
    simp only [EK, hj, Option.map_some] at s2
    injection s2 with s2; injection s2 with s2
  have hreg := s1.sees.reg j _ hj
  rw [hρ] at hreg
  exact hreg.1.le hc

theorem nz_length : ∀ (ns : List Nat) (cs : List AV), (nz ns cs).length = cs.length
  | [], cs => by cases cs <;> rfl
  | n :: ns, [] => rfl
  | n :: ns, c :: cs => by simp [nz, nz_length ns cs]
theorem XR_nzc {O : Nat → Prop} {E : EI} {n : Nat} {c : AV} {v : Value} {nb : List Nat} (h : XR w O E c v nb) : XR w O E (nzc n c) v nb := by
  cases c <;> first | exact h | skip
  simp only [XR] at h
  simp only [nzc, XR]
  exact .inl ⟨trivial, h.1, h.2⟩
theorem XRs_nz {O : Nat → Prop} {E : EI} : ∀ {ns : List Nat} {cs : List AV} {vs : List Value} {nb : List Nat}, XRs w O E cs vs nb → XRs w O E (nz ns cs) vs nb
  | [], [], _, _, h => h
  | [], _ :: _, _, _, h => h
  | _ :: _, [], _, _, h => h
  | n :: ns, c :: cs, vs, nb, h => by
    simp only [XRs] at h
    obtain ⟨v, vs', n1, n2, h1, h2, h3, h4⟩ := h
    simp only [nz, XRs]
    exact ⟨v, vs', n1, n2, h1, h2, XR_nzc h3, XRs_nz h4⟩
theorem XRs_nzR {O : Nat → Prop} {E : EI} {ns : List Nat} : ∀ {rs : List (List AV)} {vs : List Value} {nb : List Nat}, XRs w O E rs.flatten vs nb → XRs w O E (rs.map (nz ns)).flatten vs nb
  | [], _, _, h => h
  | r :: rs, vs, nb, h => by
    rw [List.flatten_cons] at h
    obtain ⟨n1, n2, rfl, h1, h2⟩ := XRs_split r.length h
    rw [List.take_left] at h1
    rw [List.drop_left] at h2
    have := XRs_append (XRs_nz (ns := ns) h1) (XRs_nzR (ns := ns) h2)
    simpa using this
theorem xbslice_ok [Wd] (hS : Sim n Y w0 F0 ρ f K a w) {parts : List (Nat × AV)} {pv : Array (Nat × Value)} {k : AV → KS → Prop} {l} {t : TypeId} {len : Nat} {ns : List Nat} (h : xbslice ns K (tse P t) len parts k l)
    (hi : parts.map (·.1) = pv.toList.map (·.1)) (hp : ∀ (i : Nat) (p : Nat × AV) (q : Nat × Value), parts[i]? = some p → pv.toList[i]? = some q → XR w (OO K ρ Y) (EK K ρ) p.2 q.2 []) :
    ∃ y w', (Instr.buildSlice t len pv).run P w = .ok y w' ∧ Out n Y w0 F0 f a k y w' := by
  unfold xbslice at h
  split at h
  · rename_i e m z ht
    obtain ⟨hu, hz, hzc, hzl, hm⟩ := tse_at ht
    split at h
    · rename_i hl0
      subst hl0
      split at h
      · have hpv : pv = #[] := by
          have : pv.toList.map (·.1) = [] := hi.symm
          simpa using this
        subst hpv
        obtain ⟨ρ', s1, s2, s3⟩ := hS.push (K1 := K) rfl (fun _ _ h => h) (e := .lst m []) (nb := []) (c := #[]) (el := e) (vs := []) (by simp [Ent.rows]) (by simp [Ent.rows, XRs]) (by simp) (by simp) (by simp [Ent.rows]) (by simp) (by simp) (fun h => by cases h)
        refine ⟨.slice (some ⟨w.heap.size, 0, none⟩) 0 0, _, ?_, _, _, ρ', s1, ?_, h⟩
        · simp [Instr.buildSlice, run_under hu, run_sizeOf hz, newRow_run, Instr.fill]
          have hz0 : (Array.map (fun (x : Nat) => (default : Value)) (Array.range 0)) = #[] := Array.eq_empty_of_size_eq_zero (by simp)
          rw [hz0]
        · exact sl_new s1 (by rw [kg_push]; simp) s2 s3 (by simp [Ent.rows]) (by simp [Ent.rows, Ent.n])
      · exact h.elim
    · rename_i hl0
      split at h
      rename_i hlen
      split at h
      · rename_i cs hf
        split at h
        · rename_i K1 out hab
          obtain ⟨zv, hzv, rfl, _⟩ := tzc_at hzc
          have hzs : zv.cells.size = m := by simpa using hzl
          have hX0 : XRs w (OO K ρ Y) (EK K ρ) (zeros len (zv.cells.toList.map cv)) ((Array.range (len * m)).map (fun i => zv.cells[i % zv.cells.size]!)).toList [] := by
            rw [← hzs, zeros_ok (by omega)]
            exact XRs_rep (cvs_ok _) len
          obtain ⟨us, h1, h2, h3⟩ := xfill_ok (vs := (Array.range (len * m)).map (fun i => zv.cells[i % zv.cells.size]!)) hi hp hX0 hf
          obtain ⟨nb, g1, g2, g3, g4, g5, g6, g7⟩ := absorb_ok hS (fun _ _ h => h) h2 hab
          have hol : out.length = len * m := by rw [g2, h3]; simp [zeros, hzs]
          obtain ⟨r1, r2, r3⟩ := rowsOf_len len out hol
          have hul := XRs_length g1
          simp at hul
          obtain ⟨ρ', s1, s2, s3⟩ := hS.push (K1 := K1) g3 g4 (e := .lst m ((rowsOf m len out).map (nz ns))) (nb := nb) (c := us) (el := e) (vs := us.toList) (by simp only [Ent.rows, Ent.n]; intro r hr; obtain ⟨r0, h0, rfl⟩ := List.mem_map.1 hr; rw [nz_length]; exact r2 r0 h0) (by simp only [Ent.rows, Ent.E]; exact XRs_nzR (by rw [r3]; exact g1)) (fun i hi => by simp) g7 (by simp only [Ent.rows, Ent.n, List.length_map, r1]; omega) g5 g6 (fun h => by cases h)
          refine ⟨.slice (some ⟨w.heap.size, 0, none⟩) len len, _, ?_, _, _, ρ', s1, ?_, h⟩
          · have hlm : ¬ (len * m = 0) := by rw [Nat.mul_eq_zero]; omega
            simp only [Instr.buildSlice, Sem.run_bind, run_under hu, Result.andThen_ok, run_sizeOf hz, hlm, if_false, Sem.run_ite, show ¬ (2 ^ 24 < len * m) by omega, gt_iff_lt, run_zero hzv, h1, newRow_run, Sem.run_pure]
          · exact sl_new s1 (by rw [kg_push, g3]; simp) s2 s3 (by simp [Ent.rows, r1]) (by simp [Ent.rows, Ent.n, r1])
        · exact h.elim
      · exact h.elim
      · exact h.elim
  · exact h.elim
/-- nb' is nb with nd put in somewhere, and perhaps less. -/
def Ins (nd nb nb' : List Nat) : Prop := ∃ a c, nb' = a ++ nd ++ c ∧ (a ++ c).Sublist nb
theorem Ins.mem {nd nb nb' : List Nat} (h : Ins nd nb nb') {b : Nat} (hb : b ∈ nb') : b ∈ nd ∨ b ∈ nb := by
  obtain ⟨a, c, rfl, hs⟩ := h
  simp only [List.mem_append] at hb
  rcases hb with (hb | hb) | hb
  · exact .inr (hs.subset (by simp [hb]))
  · exact .inl hb
  · exact .inr (hs.subset (by simp [hb]))
theorem Ins.nodup {nd nb nb' : List Nat} (h : Ins nd nb nb') (h1 : nd.Nodup) (h2 : nb.Nodup) (h3 : ∀ b ∈ nd, b ∉ nb) : nb'.Nodup := by
  obtain ⟨a, c, rfl, hs⟩ := h
  have hac := h2.sublist hs
  rw [List.nodup_append] at hac
  have ha : ∀ b ∈ a, b ∉ nd := fun b hb hb' => h3 b hb' (hs.subset (by simp [hb]))
  have hc : ∀ b ∈ c, b ∉ nd := fun b hb hb' => h3 b hb' (hs.subset (by simp [hb]))
  rw [List.nodup_append, List.nodup_append]
  refine ⟨⟨hac.1, h1, fun x hx y hy hxy => ?_⟩, hac.2.1, fun x hx y hy hxy => ?_⟩
  · subst hxy; exact ha x hx hy
  · subst hxy
    rcases List.mem_append.1 hx with hx | hx
    · exact hac.2.2 x hx x hy rfl
    · exact hc x hy hx
theorem RR_setI {w w' : World} {O O' : Nat → Prop} {E E' : EI} {n : Nat} {nd : List Nat} (hs : Same O E w O' E' w') {r' : List AV} (hr' : r'.length = n) : ∀ {rs : List (List AV)} {bl off : Nat} {nb : List Nat} {i : Nat}, i < rs.length →
    (∀ k, (k < i * n ∨ (i + 1) * n ≤ k) → w'.cell? ⟨bl, off + k, none⟩ = w.cell? ⟨bl, off + k, none⟩) → (∀ b ∈ nb, w'.heap[b]? = w.heap[b]?) →
    (∀ m, m.Sublist nb → CR w O E bl (off + i * n) (rowOf rs i) m → ∃ m', CR w' O' E' bl (off + i * n) r' m' ∧ Ins nd m m') →
    RR w O E n bl off rs nb → ∃ nb', RR w' O' E' n bl off (rs.set i r') nb' ∧ Ins nd nb nb'
  | [], _, _, _, _, hi, _, _, _, _ => by simp at hi
  | r :: rs, bl, off, nb, 0, hi, hc, hn, hnew, h => by
    simp only [RR] at h
    obtain ⟨n1, n2, rfl, hr, h3, h4⟩ := h
    obtain ⟨m', h5, a, c, rfl, h6⟩ := hnew n1 (by simp) (by simpa [rowOf] using h3)
    refine ⟨a ++ nd ++ c ++ n2, ?_, a, c ++ n2, by simp, by rw [← List.append_assoc]; exact List.Sublist.append h6 (List.Sublist.refl _)⟩
    simp only [List.set_cons_zero, RR]
    refine ⟨_, n2, rfl, hr', by simpa using h5, RR_mono' hs (fun i hi => ?_) (fun b hb => hn b (by simp [hb])) h4⟩
    have := hc (n + i) (by right; simp only [Nat.zero_add, Nat.one_mul]; omega)
    simpa [Nat.add_assoc] using this
  | r :: rs, bl, off, nb, i + 1, hi, hc, hn, hnew, h => by
    simp only [RR] at h
    obtain ⟨n1, n2, rfl, hr, h3, h4⟩ := h
    have e : off + n + i * n = off + (i + 1) * n := by rw [Nat.succ_mul]; omega
    obtain ⟨nb', h5, a, c, rfl, h6⟩ := RR_setI hs hr' (rs := rs) (bl := bl) (off := off + n) (nb := n2) (i := i) (by simpa using hi) (fun k hk => by
        have := hc (n + k) (by simp only [Nat.succ_mul] at hk ⊢; omega)
        simpa [Nat.add_assoc] using this) (fun b hb => hn b (by simp [hb])) (fun m hm hC => by
        rw [e] at hC ⊢
        exact hnew m (hm.trans (by simp)) (by simpa [rowOf] using hC)) h4
    refine ⟨n1 ++ (a ++ nd ++ c), ?_, n1 ++ a, c, by simp, by rw [List.append_assoc]; exact List.Sublist.append (List.Sublist.refl _) h6⟩
    simp only [List.set_cons_succ, RR]
    refine ⟨n1, _, rfl, hr, CR_mono' hs (fun k hk => hc k (by simp only [Nat.succ_mul]; omega)) (fun b hb => hn b (by simp [hb])) h3, h5⟩
theorem putCRn {w' : World} {O : Nat → Prop} {E : EI} {bl o p : Nat} {cs ds : List AV} {us : List Value} {nb nd : List Nat} (same : Same O E w O E w') (hlen : p + ds.length ≤ cs.length)
    (hc : ∀ i, (i < p ∨ p + us.length ≤ i) → w'.cell? ⟨bl, o + i, none⟩ = w.cell? ⟨bl, o + i, none⟩) (hu : ∀ i, i < us.length → w'.cell? ⟨bl, o + p + i, none⟩ = us[i]?) (hX : XRs w O E ds us nd) (ho : ∀ u ∈ us, oneCell u = true)
    (hn : ∀ b ∈ nb, w'.heap[b]? = w.heap[b]?) (hnd : ∀ b ∈ nd, w'.heap[b]? = w.heap[b]?) (h : CR w O E bl o cs nb) : ∃ nb', CR w' O E bl o (putCells cs p ds) nb' ∧ Ins nd nb nb' := by
  obtain ⟨vs, hl, hv, hx, hone⟩ := CR_vals h
  have hul := XRs_length hX
  obtain ⟨n1, n2, rfl, h1, h2⟩ := XRs_split p hx
  obtain ⟨m1, m2, rfl, h3, h4⟩ := XRs_split ds.length h2
  have e1 := XRs.mono _ same _ _ (fun b hb => hn b (by simp [hb])) h1
  have e2 := XRs.mono _ same _ _ hnd hX
  have e3 := XRs.mono _ same _ _ (fun b hb => hn b (by simp [hb])) h4
  have e := XRs_append (XRs_append e1 e2) e3
  refine ⟨n1 ++ nd ++ m2, CR_mk (vs := vs.take p ++ us ++ (vs.drop p).drop ds.length) (fun i hi => ?_) (fun v hv => by
      rcases List.mem_append.1 hv with hv | hv
      · rcases List.mem_append.1 hv with hv | hv
        · exact hone v (List.mem_of_mem_take hv)
        · exact ho v hv
      · exact hone v (List.mem_of_mem_drop (List.mem_of_mem_drop hv))) (by simpa [putCells, List.drop_drop, Nat.add_comm] using e), n1, m2, rfl, ?_⟩
  · have hi' : i < cs.length := by simp [putCells] at hi; omega
    by_cases hp : i < p
    · rw [hc i (.inl hp), hv i hi', List.append_assoc, List.getElem?_append_left (by simp; omega), List.getElem?_take, if_pos hp]
    · by_cases hq : i < p + us.length
      · have := hu (i - p) (by omega)
        rw [show o + p + (i - p) = o + i by omega] at this
        rw [this, List.append_assoc, List.getElem?_append_right (by simp; omega), List.getElem?_append_left (by simp; omega)]
        congr 1; simp; omega
      · rw [hc i (.inr (by omega)), hv i hi', List.getElem?_append_right (by simp; omega), List.getElem?_drop, List.getElem?_drop]
        congr 1; simp; omega
  · exact List.Sublist.append (List.Sublist.refl _) (List.sublist_append_right _ _)
/-- A write that takes in regions that are no more. -/
theorem Sim.wroteA [Wd] (hS : Sim n Y w0 F0 ρ f K a w) {j : Nat} {e e' : Ent} {w' : World} {off bl : Nat} {vs : List Value} {nd nb' : List Nat} {K1 : KS} (hl1 : K1.length = K.length) (hk : ∀ i e, kg K1 i = some e → kg K i = some e) (hj1 : kg K1 j = some e)
    (hbl : (ρ j).1 = some bl) (hP : Put w w' bl off vs) (hn : e'.n = e.n) (hl : e'.rows.length = e.rows.length) (hb : e'.isBox = e.isBox) (hbx : e.isBox = false) (hR : RR w' (OO K ρ Y) (e'.E (EK K ρ)) e'.n bl 0 e'.rows nb')
    (hnd : ∀ x ∈ nd, ∃ i e, kg K i = some e ∧ kg K1 i = none ∧ x ∈ fp ρ i) (hndd : nd.Nodup) (hs : Ins nd (ρ j).2 nb') :
    ∃ ρ', Sim n Y w0 F0 ρ' f (K1.set j (some e')) a w' := by
  have hj := hk j e hj1
  have hjl := kg_lt hj1
  let ρ' : RHO := fun i => if i = j then ((ρ j).1, nb') else ρ i
  have hg : ∀ i, kg (K1.set j (some e')) i = if i = j then some e' else kg K1 i := fun i => kg_set _ _ _ _ hjl
  have hndj : ∀ x ∈ nd, x ∉ fp ρ j := fun x hx hx' => by
    obtain ⟨i, e1, h1, h2, h3⟩ := hnd x hx
    have hij : i ≠ j := fun h => by subst h; rw [hj1] at h2; cases h2
    exact hS.sees.dj i e1 j e x h1 hj hij h3 hx'
  have hfp : ∀ x, x ∈ fp ρ' j → x ∈ fp ρ j ∨ x ∈ nd := by
    intro x hx
    simp only [fp, ρ', if_true] at hx ⊢
    rcases List.mem_append.1 hx with h | h
    · exact .inl (List.mem_append_left _ h)
    · rcases hs.mem h with h | h
      · exact .inr h
      · exact .inl (List.mem_append_right _ h)
  have hei : ∀ i p, (EK (K1.set j (some e')) ρ').of i = some p → (EK K ρ).of i = some p := by
    intro i p hp
    simp only [EK] at hp ⊢
    rw [hg] at hp
    by_cases h : i = j
    · subst h
      rw [if_pos rfl] at hp
      rw [hj]
      simpa [ρ', hn, hl] using hp
    · rw [if_neg h] at hp
      cases h1 : kg K1 i with
      | none => rw [h1] at hp; cases hp
      | some e1 => rw [h1] at hp; rw [hk _ _ h1]; simpa [ρ', h] using hp
  have hO : ∀ b, OO (K1.set j (some e')) ρ' Y b → OO K ρ Y b := by
    rintro b (h | ⟨i, e0, hi, hb'⟩)
    · exact .inl h
    · rw [hg] at hi
      by_cases h : i = j
      · subst h
        rcases hfp b hb' with h | h
        · exact .inr ⟨i, e, hj, h⟩
        · obtain ⟨i', e1, h1, _, h3⟩ := hnd b h
          exact .inr ⟨i', e1, h1, h3⟩
      · rw [if_neg h] at hi
        exact .inr ⟨i, e0, hk _ _ hi, by simpa [fp, ρ', h] using hb'⟩
  have hjO : OO K ρ Y bl := .inr ⟨j, e, hj, fp_hd hbl⟩
  have same : Same (OO K ρ Y) (EK K ρ) w (OO (K1.set j (some e')) ρ' Y) (EK (K1.set j (some e')) ρ') w' :=
    ⟨Nat.le_of_eq hP.size.symm, fun b hb _ => hP.block b (fun h => hb (h ▸ hjO)), fun b hb _ h => hb (hO b h), by simp [EK, hl1], fun i p _ hp => hei i p hp, fun _ _ _ _ _ _ _ h => hP.whole h⟩
  refine ⟨ρ', hS.lift same j ?_ ?_ ?_⟩
  · intro i e0 hi hij
    rw [hg, if_neg hij] at hi
    refine ⟨hk _ _ hi, by simp [ρ', hij], fun b hb' => hP.block b (fun h => ?_)⟩
    subst h
    exact hS.sees.dj j e i e0 _ hj (hk _ _ hi) (Ne.symm hij) (fp_hd hbl) hb'
  · intro e0 h0
    rw [hg, if_pos rfl] at h0
    injection h0 with h0; subst h0
    have hreg := hS.sees.reg j e hj
    rw [hbl] at hreg
    obtain ⟨hW, hR0, _⟩ := hreg
    have hnd0 := hS.sees.nd j e hj
    have e1 : ρ' j = ((ρ j).1, nb') := by simp [ρ']
    simp only [fp, hbl, Option.toList, List.singleton_append, List.nodup_cons] at hnd0
    refine ⟨?_, ?_, ?_⟩
    · rw [e1]
      refine Reg.at hbl ⟨?_, ?_, fun h => by rw [hb, hbx] at h; cases h⟩
      · rw [hl, hn]; exact hP.whole hW
      · have hw : Same (OO K ρ Y) (e'.E (EK K ρ)) w' (OO (K1.set j (some e')) ρ' Y) (e'.E (EK (K1.set j (some e')) ρ')) w' := by
          have h1 : Same (OO K ρ Y) (EK K ρ) w' (OO (K1.set j (some e')) ρ' Y) (EK (K1.set j (some e')) ρ') w' :=
            ⟨Nat.le_refl _, fun _ _ _ => rfl, fun x hx _ h => hx (hO x h), by simp [EK, hl1], fun i p _ hp => hei i p hp, fun _ _ _ _ _ _ _ h => h⟩
          cases e' with
          | box cs => exact h1
          | lst m rows => exact h1.en
        exact RR.mono _ hw _ _ _ rfl (fun _ _ => rfl) hR
    · simp only [fp, e1, hbl, Option.toList, List.singleton_append, List.nodup_cons]
      refine ⟨fun h => ?_, hs.nodup hndd hnd0.2 (fun b hb hb' => hndj b hb (fp_tl hb'))⟩
      rcases hs.mem h with h | h
      · exact hndj _ h (fp_hd hbl)
      · exact hnd0.1 h
    · intro b hb'
      rcases hfp b hb' with h | h
      · exact ⟨by rw [hP.size]; exact hS.sees.lt j e b hj h, .inr ⟨j, e, hj, h, .inl rfl⟩⟩
      · obtain ⟨i, e2, h1, h2, h3⟩ := hnd b h
        have hij : i ≠ j := fun h => by subst h; rw [hj1] at h2; cases h2
        exact ⟨by rw [hP.size]; exact hS.sees.lt i e2 b h1 h3, .inr ⟨i, e2, h1, h3, .inr (by rw [hg, if_neg hij]; exact h2)⟩⟩
  · refine hS.ext.trans (G := fun b => b = bl) ⟨hP.os, hP.tape, hP.output, Nat.le_of_eq hP.size.symm, fun b _ hb => hP.block b hb, fun b m h => hP.whole h⟩ (fun _ h => h) (fun x hx hx' => ?_)
    subst hx'
    rcases hS.new j e _ hj (fp_hd hbl) with h | h
    · exact h
    · omega
theorem xstoreX_ok [Wd] (hS : Sim n Y w0 F0 ρ f K a w) {p v : AV} {k : KS → Prop} {l} {vp x : Value} {t : TypeId} {fl : Bool} {ns : List Nat}
    (h : xstoreX fl ns K (tk P t) p v k l) (hp : XR w (OO K ρ Y) (EK K ρ) p vp []) (hx : XR w (OO K ρ Y) (EK K ρ) v x []) :
    ∃ K' ρ' w', (Instr.storeAt t vp x).run P w = .ok () w' ∧ Sim n Y w0 F0 ρ' f K' a w' ∧ k K' := by
  unfold xstoreX at h
  split at h
  · rename_i j i o
    split at h
    · rename_i m rows hj
      split at h
      · exact xstore_ok hS h hp hx
      · split at h
        · unfold xstoreA at h
          split at h
          · rename_i hi
            split at h
            · rename_i K1 ds hab
              split at h
              · rename_i hcond
                obtain ⟨hjs, hfit, hl⟩ := hcond
                obtain ⟨us, hX, hcells⟩ : ∃ us : List Value, XRs w (OO K ρ Y) (EK K ρ) (cellsV v) us [] ∧ ((∀ y ∈ us, oneCell y = true) → x.cells.toList = us) := by
                  by_cases hv : ∃ cs, v = .agg cs
                  · obtain ⟨cs, rfl⟩ := hv
                    simp only [XR] at hx
                    obtain ⟨vs, rfl, hX⟩ := hx
                    exact ⟨vs.toList, hX, fun _ => rfl⟩
                  · have e1 : cellsV v = [v] := by cases v <;> first | rfl | exact absurd ⟨_, rfl⟩ hv
                    rw [e1]
                    refine ⟨[x], ?_, fun h1 => by rw [cells_one (h1 x (by simp))]⟩
                    simp only [XRs]
                    exact ⟨x, [], [], [], rfl, rfl, hx, by simp⟩
                obtain ⟨nd, g1, g2, g3, g4, g5, g6, g7⟩ := absorb_ok hS (fun _ _ h => h) hX hab
                have hu := hcells g7
                have hul := XRs_length g1
                have hz : tz P t = some us.length := by
                  rw [hul]
                  cases htk : tk P t with
                  | agg q =>
                    rw [htk] at hfit
                    rw [(tk_agg htk).1]
                    cases v <;> simp [fitV] at hfit
                    rw [hfit]
                  | one =>
                    rw [htk] at hfit
                    rw [(tk_one htk).1]
                    cases v <;> simp [fitV] at hfit <;> rw [hfit]
                  | bad => rw [htk] at hfit; cases v <;> simp [fitV] at hfit
                have hj1 : kg K1 j = some (.lst m rows) := by
                  obtain ⟨e, he⟩ := Option.isSome_iff_exists.1 hjs
                  have := g4 j e he
                  rw [hj] at this; rw [he, this]
                obtain ⟨bl, hbl, hv⟩ := XR_ptr_at hS hj hp
                obtain ⟨bl', hbl', hW, hR, hb⟩ := hS.mem hj (by simp only [Ent.rows]; rintro rfl; simp at hi)
                obtain rfl : bl = bl' := by rw [hbl] at hbl'; injection hbl'
                simp only [Ent.rows, Ent.n, Ent.E] at hR hW hv
                obtain ⟨nb0, hr0, _, _⟩ := RR_row hR hi
                have hro : (i + 1) * m ≤ rows.length * m := Nat.mul_le_mul_right m hi
                have hro' : (i + 1) * m = i * m + m := Nat.succ_mul i m
                obtain ⟨w', hr, hP⟩ := storeCells_run (P := P) (b := bl) (off := i * m + o) us 0 hW (by omega) g7
                have hP' : Put w w' bl (i * m + o) us := by simpa using hP
                obtain ⟨hc1, hc2⟩ := cells_put hP'
                have hjO : OO K ρ Y bl := .inr ⟨j, _, hj, fp_hd hbl⟩
                have same : Same (OO K ρ Y) EN w (OO K ρ Y) EN w' :=
                  ⟨Nat.le_of_eq hP.size.symm, fun b hb _ => hP.block b (fun h => hb (h ▸ hjO)), fun b hb _ h => hb h, Nat.le_refl _, fun _ _ _ h => h, fun _ _ _ _ _ _ _ h => hP.whole h⟩
                have hnd := hS.sees.nd j _ hj
                have hne : ∀ b ∈ (ρ j).2, w'.heap[b]? = w.heap[b]? := fun b hb => hP.block b (fun h => by
                  subst h; simp [fp, hbl] at hnd; exact hnd.1 hb)
                have hne2 : ∀ b ∈ nd, w'.heap[b]? = w.heap[b]? := fun b hb => hP.block b (fun h => by
                  subst h
                  obtain ⟨i', e1, q1, q2, q3⟩ := g5 b hb
                  have hij : i' ≠ j := fun h => by subst h; rw [hj1] at q2; cases q2
                  exact hS.sees.dj i' e1 j _ b q1 hj hij q3 (fp_hd hbl))
                obtain ⟨nb', hR', hs⟩ := RR_setI (nd := nd) same (r' := putCells (rowOf rows i) o (nz ns ds)) (by simp [putCells, nz_length]; omega) (rs := rows) (bl := bl) (off := 0) (nb := (ρ j).2) hi
                  (fun k hk => by
                    rw [Nat.zero_add]
                    refine hc1 k ?_
                    rcases hk with hk | hk
                    · exact .inl (by omega)
                    · exact .inr (by omega)) hne (fun q hq hC => by
                    rw [Nat.zero_add] at hC ⊢
                    exact putCRn same (by rw [nz_length]; exact hl) (fun z hz => by
                      rcases hz with hz | hz
                      · exact hc1 _ (.inl (by omega))
                      · exact hc1 _ (.inr (by omega))) (fun z hz => by rw [Nat.add_assoc]; rw [← Nat.add_assoc]; exact hc2 z hz) (XRs_nz g1) g7 (fun b hb => hne b (hq.subset hb)) hne2 hC) hR
                obtain ⟨ρ', hS'⟩ := hS.wroteA (K1 := K1) (e' := .lst m (rows.set i (putCells (rowOf rows i) o (nz ns ds)))) (nd := nd) (nb' := nb') g3 g4 hj1 hbl hP' rfl (by simp [Ent.rows]) rfl rfl (by simpa [Ent.rows, Ent.n, Ent.E] using hR') g5 g6 hs
                refine ⟨_, ρ', w', ?_, hS', h⟩
                simp only [Instr.storeAt, Instr.sureAddr, hv, Sem.run_bind, Sem.run_pure, Result.andThen_ok, storeVar, run_sizeOf hz]
                rw [if_neg (by rw [← hu]; simp)]
                rw [hu]; exact hr
              · exact h.elim
            · exact h.elim
          · exact h.elim
        · exact h.elim
    · exact xstore_ok hS h hp hx
  · exact h.elim
end
end Go.Proofs.Ytcpelionmmnogaa.Am
