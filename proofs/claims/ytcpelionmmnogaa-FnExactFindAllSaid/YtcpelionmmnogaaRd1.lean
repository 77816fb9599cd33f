/- What a call is given, told as the machine has it: readers of plain values, slices and structs. No condition. -/
import Derived.Test.YtcpelionmmnogaaEv3
import Derived.Test.YtcpelionmmnogaaEv6
import Derived.ChangeArms
import Derived.ChangeShapes
import Derived.ChangeOld
import Derived.WideShapes
import Derived.Carry
namespace Go.Proofs.Ytcpelionmmnogaa.Am
open Go Go.ChangeShapes Go.WideShapes
set_option linter.unusedVariables false
set_option linter.unusedSimpArgs false
/-- Cells of type t are read as c x, for an x that meets ok. -/
structure Rd {α : Type} (P : Program) (t : TypeId) (c : α → List AV) (ok : α → Prop) : Prop where
  rd : ∀ {H : Type} {enc : TypeId × Value → H} {w : World} {base : Nat} {spare : Nat → Bool} {held : Bool} {fuel : Nat} {cs : List Value} {x : DataW H × List MemPlace},
    DataW.trod enc P w base spare held fuel t cs = some x → ∃ y : α, ok y ∧ XRs w FF EN (c y) cs [] ∧ ∀ v ∈ cs, oneCell v = true
theorem Rd.map {α β : Type} {P : Program} {t : TypeId} {c : α → List AV} {ok : α → Prop} {c' : β → List AV} {ok' : β → Prop} (h : Rd P t c ok) (g : α → β) (hc : ∀ x, c' (g x) = c x) (ho : ∀ x, ok x → ok' (g x)) : Rd P t c' ok' :=
  ⟨fun h1 => by obtain ⟨y, h2, h3, h4⟩ := h.rd h1; exact ⟨g y, ho y h2, by rw [hc]; exact h3, h4⟩⟩
theorem XRs_one' {w : World} {O : Nat → Prop} {E : EI} {a : AV} {v : Value} (h : XR w O E a v []) : XRs w O E [a] [v] [] := by
  simp only [XRs]; exact ⟨v, [], [], [], rfl, rfl, h, by simp⟩
/-- In the range of its kind. -/
def inK (k : IntKind) (n : Int) : Prop := k.min ≤ n ∧ n ≤ k.max
theorem Rd.int {P : Program} {t : TypeId} {k : IntKind} (ht : P.underlying t = some (.int k)) : Rd P t (fun x : Int => [.i k x]) (inK k) :=
  ⟨fun h => by
    obtain ⟨n, rfl, _, h2⟩ := DataW.trod_int ht h
    refine ⟨n, ?_, XRs_one' (by simp [XR]), by simp [oneCell]⟩
    simp only [Lit.wf, Bool.and_eq_true, decide_eq_true_eq] at h2
    exact h2⟩
theorem Rd.bool {P : Program} {t : TypeId} (ht : P.underlying t = some .bool) : Rd P t (fun x : Bool => [.b x]) (fun _ => True) :=
  ⟨fun h => by
    obtain ⟨b, rfl, _⟩ := DataW.trod_bool ht h
    exact ⟨b, trivial, XRs_one' (by simp [XR]), by simp [oneCell]⟩⟩
theorem Rd.str {P : Program} {t : TypeId} (ht : P.underlying t = some .string) : Rd P t (fun x : List UInt8 => [.s x]) okStr :=
  ⟨fun h => by
    obtain ⟨s, rfl, _, h2⟩ := DataW.trod_string ht h
    have e : s.data.toList.length = s.size := by rw [Array.length_toList]; rfl
    refine ⟨s.data.toList, by unfold okStr; unfold maxLen at h2; omega, XRs_one' (by simp [XR]), by simp [oneCell]⟩⟩
theorem mapM_at' {α : Type} (g : Nat → Option α) : ∀ (l : List Nat) {cs : List α}, l.mapM g = some cs → cs.length = l.length ∧ ∀ (i : Nat) (h : i < l.length), g l[i] = cs[i]?
  | [], cs, h => by simp at h; subst h; simp
  | x :: l, cs, h => by
    rw [List.mapM_cons] at h
    simp only [Option.bind_eq_bind, Option.pure_def] at h
    obtain ⟨y, h1, h⟩ := Option.bind_eq_some_iff.1 h
    obtain ⟨ys, h2, h⟩ := Option.bind_eq_some_iff.1 h
    injection h with h; subst h
    obtain ⟨h3, h4⟩ := mapM_at' g l h2
    refine ⟨by simp [h3], fun i hi => ?_⟩
    cases i with
    | zero => simpa using h1
    | succ i => simpa using h4 i (by simpa using hi)
theorem mapM_at {α : Type} (g : Nat → Option α) (m : Nat) {cs : List α} (h : (List.range m).mapM g = some cs) : cs.length = m ∧ ∀ i, i < m → g i = cs[i]? := by
  obtain ⟨h1, h2⟩ := mapM_at' g _ h
  rw [List.length_range] at h1
  exact ⟨h1, fun i hi => by have := h2 i (by simpa using hi); simpa using this⟩
theorem cells_some {w : World} {base : Nat} {a : Addr} {m : Nat} {cs : List Value} (h : w.cells? base a m = some cs) : cs.length = m ∧ ∀ i, i < m → w.cell? (a.add i) = cs[i]? := by
  unfold World.cells? at h
  split at h
  · exact mapM_at _ _ h
  · cases h
theorem RR_rd {α : Type} {P : Program} {e : TypeId} {m : Nat} {c : α → List AV} {ok : α → Prop} (hm : 0 < m) (he : Rd P e c ok) (hl : ∀ x, (c x).length = m) {H : Type} {enc : TypeId × Value → H} {w : World} {base : Nat} {spare : Nat → Bool} {held : Bool} {fuel : Nat} {bl : Nat} :
    ∀ (len off : Nat) (elems : List (DataW H × List MemPlace)), elems.length = len → (∀ i, i < len → (w.cells? base ⟨bl, off + i * m, none⟩ m).bind (DataW.trod enc P w base spare held fuel e) = elems[i]?) →
      ∃ xs : List α, xs.length = len ∧ (∀ x ∈ xs, ok x) ∧ RR w FF EN m bl off (xs.map c) []
  | 0, off, elems, _, _ => ⟨[], rfl, by simp, by simp [RR]⟩
  | len + 1, off, elems, hlen, h => by
    have h0 := h 0 (by omega)
    rw [List.getElem?_eq_getElem (by omega)] at h0
    obtain ⟨cs, h1, h2⟩ := Option.bind_eq_some_iff.1 h0
    simp only [Nat.zero_mul, Nat.add_zero] at h1
    obtain ⟨y, hy, hX, ho⟩ := he.rd h2
    obtain ⟨h3, h4⟩ := cells_some h1
    obtain ⟨xs, g1, g2, g3⟩ := RR_rd hm he hl len (off + m) elems.tail (by simp [hlen]) (fun i hi => by
      have := h (i + 1) (by omega)
      rw [show off + m + i * m = off + (i + 1) * m by rw [Nat.succ_mul]; omega, this, List.getElem?_tail])
    refine ⟨y :: xs, by simp [g1], by simp only [List.mem_cons]; rintro x (rfl | hx); exact hy; exact g2 x hx, ?_⟩
    simp only [List.map_cons, RR]
    refine ⟨[], [], rfl, hl y, ?_, g3⟩
    refine CR_mk (vs := cs) (fun i hi => ?_) ho hX
    rw [hl] at hi
    rw [← h4 i hi, add_none]
theorem Rd.slice {α : Type} {P : Program} {t e : TypeId} {m : Nat} {c : α → List AV} {ok : α → Prop} (ht : P.underlying t = some (.slice e)) (hc : P.cellsOf e = m) (hm : 0 < m) (he : Rd P e c ok) (hl : ∀ x, (c x).length = m) :
    Rd P t (fun xs : List α => [.imm m (xs.map c)]) (okL ok) :=
  ⟨fun {H enc w base spare held fuel cs x} h => by
    rcases DataW.trod_slice ht h with ⟨rfl, _⟩ | ⟨a, len, cap, elems, rest, n, _, rfl, _, hb, hlc, hmx, hlen, hel, _, _⟩
    · refine ⟨[], ⟨Nat.zero_le _, by simp⟩, XRs_one' ?_, by simp [oneCell]⟩
      simp only [XR, List.map_nil, List.length_nil]
      exact ⟨trivial, none, 0, rfl, Nat.le_refl _, .inl trivial⟩
    · cases len with
      | zero =>
        refine ⟨[], ⟨Nat.zero_le _, by simp⟩, XRs_one' ?_, by simp [oneCell]⟩
        simp only [XR, List.map_nil, List.length_nil]
        exact ⟨trivial, some a, cap, rfl, Nat.zero_le _, .inl trivial⟩
      | succ len =>
        have h0 := hel 0 (by omega)
        rw [List.getElem?_eq_getElem (by omega)] at h0
        obtain ⟨cs, h1, h2⟩ := Option.bind_eq_some_iff.1 h0
        rw [hc] at h1
        obtain ⟨h3, h4⟩ := cells_some h1
        have h5 := h4 0 hm
        simp only [Nat.zero_mul, Addr.add, if_true] at h5
        rw [List.getElem?_eq_getElem (by omega)] at h5
        obtain ⟨bl, off, sp⟩ := a
        have hsp : sp = none := by
          cases sp with
          | none => rfl
          | some s =>
            unfold World.cell? at h5
            split at h5 <;> simp at h5
        subst hsp
        have hlt := cell_lt h5
        obtain ⟨xs, g1, g2, g3⟩ := RR_rd hm he hl (len + 1) off elems hlen (fun i hi => by
          have := hel i hi
          rw [hc, add_none] at this
          exact this)
        refine ⟨xs, ⟨by unfold maxLen at hmx; omega, g2⟩, XRs_one' ?_, by simp [oneCell]⟩
        simp only [XR, List.length_map]
        exact ⟨trivial, _, cap, by rw [g1], by omega, .inr ⟨bl, off, rfl, fun h => h, hlt, g3⟩⟩⟩
/-- The fields of a struct, one after the other. -/
structure Rf {α : Type} (P : Program) (ts : List (TypeId × Nat)) (c : α → List AV) (ok : α → Prop) : Prop where
  rd : ∀ {H : Type} {enc : TypeId × Value → H} {w : World} {base : Nat} {spare : Nat → Bool} {held : Bool} {fuel : Nat} {cs : List Value}, cs.length = (ts.map (·.2)).sum →
    (∀ (pre suf : List (TypeId × Nat)) (t : TypeId) (m : Nat), ts = pre ++ (t, m) :: suf → ∃ x, DataW.trod enc P w base spare held fuel t ((cs.drop ((pre.map (·.2)).sum)).take m) = some x) →
    ∃ y : α, ok y ∧ XRs w FF EN (c y) cs [] ∧ ∀ v ∈ cs, oneCell v = true
theorem Rf.nil (P : Program) : Rf P [] (fun _ : Unit => []) (fun _ => True) := ⟨fun h _ => by
  rw [List.map_nil, List.sum_nil, List.length_eq_zero_iff] at h
  subst h; exact ⟨(), trivial, by simp [XRs], by simp⟩⟩
theorem Rf.cons {α β : Type} {P : Program} {t : TypeId} {m : Nat} {ts : List (TypeId × Nat)} {c : α → List AV} {ok : α → Prop} {c' : β → List AV} {ok' : β → Prop} (h : Rd P t c ok) (h' : Rf P ts c' ok') :
    Rf P ((t, m) :: ts) (fun x : α × β => c x.1 ++ c' x.2) (fun x => ok x.1 ∧ ok' x.2) := ⟨fun {H enc w base spare held fuel cs} hl hf => by
  obtain ⟨x, hx⟩ := hf [] ts t m rfl
  simp only [List.map_nil, List.sum_nil, List.drop_zero] at hx
  obtain ⟨y, h1, h2, h3⟩ := h.rd hx
  simp only [List.map_cons, List.sum_cons] at hl
  obtain ⟨z, h4, h5, h6⟩ := h'.rd (enc := enc) (w := w) (base := base) (spare := spare) (held := held) (fuel := fuel) (cs := cs.drop m) (by simp; omega) (fun pre suf t' m' he => by
    obtain ⟨x', hx'⟩ := hf ((t, m) :: pre) suf t' m' (by rw [he]; rfl)
    refine ⟨x', ?_⟩
    rw [← hx', List.drop_drop]
    simp only [List.map_cons, List.sum_cons])
  refine ⟨(y, z), ⟨h1, h4⟩, ?_, fun v hv => ?_⟩
  · have := XRs_append h2 h5
    rw [List.take_append_drop] at this
    exact this
  · rw [← List.take_append_drop m cs] at hv
    rcases List.mem_append.1 hv with hv | hv
    · exact h3 v hv
    · exact h6 v hv⟩
/-- Where the fields lie: each behind those before it. -/
def fldsB (P : Program) : List Field → Nat → List (TypeId × Nat) → Bool
  | [], _, [] => true
  | f :: fs, o, (t, m) :: ts => f.type == t && P.cellsOf t == m && f.offset == o && fldsB P fs (o + m) ts
  | _, _, _ => false
theorem fldsB_at {P : Program} : ∀ {fs : List Field} {o : Nat} {ts : List (TypeId × Nat)}, fldsB P fs o ts = true → ∀ {pre suf : List (TypeId × Nat)} {t : TypeId} {m : Nat}, ts = pre ++ (t, m) :: suf →
    ∃ f, fs[pre.length]? = some f ∧ f.type = t ∧ P.cellsOf t = m ∧ f.offset = o + (pre.map (·.2)).sum
  | [], o, ts, h, pre, suf, t, m, he => by
    cases ts with
    | nil => cases pre <;> cases he
    | cons => cases h
  | f :: fs, o, [], h, pre, suf, t, m, he => by cases h
  | f :: fs, o, (t0, m0) :: ts, h, pre, suf, t, m, he => by
    simp only [fldsB, Bool.and_eq_true, beq_iff_eq] at h
    obtain ⟨⟨⟨h1, h2⟩, h3⟩, h4⟩ := h
    cases pre with
    | nil => injection he with e1 e2; injection e1 with e1 e3; subst e1 e3; exact ⟨f, rfl, h1, h2, by simpa using h3⟩
    | cons p pre =>
      injection he with e1 e2
      obtain ⟨g, g1, g2, g3, g4⟩ := fldsB_at h4 e2
      refine ⟨g, by simpa using g1, g2, g3, ?_⟩
      rw [g4, ← e1]; simp [Nat.add_assoc]
theorem Rd.struct {α : Type} {P : Program} {t : TypeId} {fs : Array Field} {ts : List (TypeId × Nat)} {c : α → List AV} {ok : α → Prop} (ht : P.underlying t = some (.struct fs)) (hf : fldsB P fs.toList 0 ts = true) (hs : P.cellsOf t = (ts.map (·.2)).sum) (h : Rf P ts c ok) :
    Rd P t c ok := ⟨fun {H enc w base spare held fuel cs x} hx => by
  obtain ⟨xs, n, _, _, hl, hlen, hel⟩ := DataW.trod_struct ht hx
  refine h.rd (enc := enc) (w := w) (base := base) (spare := spare) (held := held) (fuel := n) (hl.trans hs) fun pre suf t' m he => ?_
  obtain ⟨f, h1, h2, h3, h4⟩ := fldsB_at hf he
  have h5 := hel pre.length f (by rw [← Array.getElem?_toList]; exact h1)
  rw [h2, h3, h4, Nat.zero_add] at h5
  have hlt : pre.length < xs.length := by
    rw [hlen]
    rcases Nat.lt_or_ge pre.length fs.size with h | h
    · exact h
    · rw [List.getElem?_eq_none (by simpa using h)] at h1; cases h1
  rw [h5, List.getElem?_eq_getElem hlt]
  exact ⟨_, rfl⟩⟩
/-- A value given to a call. -/
structure Rv {α : Type} (P : Program) (t : TypeId) (av : α → AV) (ok : α → Prop) : Prop where
  rd : ∀ {H : Type} {enc : TypeId × Value → H} {w : World} {base b0 : Nat} {spare : Nat → Bool} {held : Bool} {v : Value} {d : DataW H} {p : List MemPlace}, Value.okWide P w .any b0 t v → DataW.Trod enc P w base spare held t v d p → ∃ y : α, ok y ∧ XR w FF EN (av y) v []
theorem XRs_one'' {w : World} {O : Nat → Prop} {E : EI} {a : AV} {v : Value} (h : XRs w O E [a] [v] []) : XR w O E a v [] := by
  simp only [XRs] at h
  obtain ⟨v', vs', n1, n2, h1, h2, h3, _⟩ := h
  obtain ⟨rfl, rfl⟩ := List.append_eq_nil_iff.1 h2.symm
  injection h1 with h1; subst h1; exact h3
theorem Rv.int {P : Program} {t : TypeId} {k : IntKind} (ht : P.underlying t = some (.int k)) : Rv P t (fun x : Int => .i k x) (inK k) := ⟨fun ho h => by
  obtain ⟨n, rfl, _, _, h2⟩ := open_int ht ho h
  simp only [Lit.wf, Bool.and_eq_true, decide_eq_true_eq] at h2
  exact ⟨n, h2, by simp [XR]⟩⟩
theorem Rv.bool {P : Program} {t : TypeId} (ht : P.underlying t = some .bool) : Rv P t (fun x : Bool => .b x) (fun _ => True) := ⟨fun ho h => by
  obtain ⟨b, rfl⟩ := okWide_bool ht ho
  exact ⟨b, trivial, by simp [XR]⟩⟩
theorem Rv.str {P : Program} {t : TypeId} (ht : P.underlying t = some .string) : Rv P t (fun x : List UInt8 => .s x) okStr := ⟨fun ho h => by
  obtain ⟨s, rfl⟩ := okWide_string ht ho
  obtain ⟨fuel, hf⟩ := h
  obtain ⟨y, h1, h2, _⟩ := (Rd.str ht).rd hf
  exact ⟨y, h1, XRs_one'' h2⟩⟩
theorem Rv.slice {α : Type} {P : Program} {t e : TypeId} {m : Nat} {c : α → List AV} {ok : α → Prop} (ht : P.underlying t = some (.slice e)) (h : Rd P t (fun xs : List α => [.imm m (xs.map c)]) (okL ok)) :
    Rv P t (fun xs : List α => .imm m (xs.map c)) (okL ok) := ⟨fun ho hd => by
  obtain ⟨a, len, cap, rfl⟩ := okWide_slice ht ho
  obtain ⟨fuel, hf⟩ := hd
  obtain ⟨y, h1, h2, _⟩ := h.rd hf
  exact ⟨y, h1, XRs_one'' h2⟩⟩
theorem Rv.struct {α : Type} {P : Program} {t : TypeId} {fs : Array Field} {c : α → List AV} {ok : α → Prop} (ht : P.underlying t = some (.struct fs)) (h : Rd P t c ok) : Rv P t (fun x : α => .agg (c x)) ok := ⟨fun ho hd => by
  obtain ⟨cs, rfl, _⟩ := okWide_struct ht ho
  obtain ⟨fuel, hf⟩ := hd
  obtain ⟨y, h1, h2, _⟩ := h.rd hf
  exact ⟨y, h1, by simp only [XR]; exact ⟨cs, rfl, h2⟩⟩⟩
/-- A law that the evaluator finds true: the call returns true, and what was there is as it was. -/
theorem PC.law [Wd] {P : Program} {g : FuncId} {args : List AV} (h : PC P g args (· = .b true)) {w : World} {vs : List Value} (hI : Wd.I w) (hv : XRs w FF EN args vs []) :
    Calls P g vs.toArray w fun e w' => e = .returned (.bool true) ∧ Go.RowKit.Below w.heap.size w w' :=
  (h.2 w vs hI hv).mono fun e w' ⟨v, x, nb, h1, h2, h3, h4, h5, h6⟩ => by
    subst h2
    simp only [XR] at h3
    rw [h1, h3.1]
    exact ⟨rfl, h6.below (fun _ h => h)⟩
end Go.Proofs.Ytcpelionmmnogaa.Am
