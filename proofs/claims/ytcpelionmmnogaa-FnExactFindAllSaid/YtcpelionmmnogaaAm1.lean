/- An abstract machine for the walks: the values, what they say of a world, and that they say it still where the world has turned elsewhere. No condition. -/
import Derived.Calls
import Derived.OrdersHeld
import Derived.Below
namespace Go.Proofs.Ytcpelionmmnogaa.Am
open Go
set_option linter.unusedVariables false
set_option linter.unusedSimpArgs false

/-- A value as the walk knows it. 'u': nothing is known. 'imm n rows': a slice whose rows (of n cells) nobody writes; 'own n rows': a slice of its own memory (or of none), inside a row or a result; 'sl j': all of region j; 'ptr j i o': cell o of row i of region j; 'iptr': the same in memory that nobody writes. -/
inductive AV where
  | u
  | b (x : Bool)
  | i (k : IntKind) (n : Int)
  | s (x : List UInt8)
  | nil
  | imm (n : Nat) (rows : List (List AV))
  | own (n : Nat) (rows : List (List AV))
  | sl (j : Nat)
  | ptr (j i o : Nat)
  | iptr (n : Nat) (rows : List (List AV)) (i o : Nat)
  | agg (cs : List AV)
  | tup (vs : List AV)
  | clo (f : Nat) (caps : List AV)

/-- A region of one's own: a variable's cells, or the rows of a slice. -/
inductive Ent where
  | box (cs : List AV)
  | lst (n : Nat) (rows : List (List AV))
def Ent.n : Ent → Nat
  | .box cs => cs.length
  | .lst n _ => n
def Ent.rows : Ent → List (List AV)
  | .box cs => [cs]
  | .lst _ rows => rows
abbrev Fr := Nat → AV
abbrev KS := List (Option Ent)
def kg (K : KS) (j : Nat) : Option Ent := K.getD j none
/-- How many regions there are, and of each that lives its block (none: it has no memory, and no rows), its rows' cells and how many rows it has. -/
structure EI where
  sz : Nat
  of : Nat → Option (Option Nat × Nat × Nat)
def EN : EI := ⟨0, fun _ => none⟩

/-- Block b is a row of at least m cells, of which no string shares any. -/
def Whole (w : World) (b m : Nat) : Prop := ∃ c el, w.heap[b]? = some (.cells c el (0, 0)) ∧ m ≤ c.size

def oneCell : Value → Bool
  | .agg _ | .tuple _ => false
  | _ => true

mutual
def XR (w : World) (O : Nat → Prop) (E : EI) : AV → Value → List Nat → Prop
  | .u, _, nb => nb = []
  | .b x, v, nb => v = .bool x ∧ nb = []
  | .i k n, v, nb => v = .int k n ∧ nb = []
  | .s x, v, nb => v = .string ⟨x.toArray⟩ ∧ nb = []
  | .nil, v, nb => (∃ a, v = .slice a 0 0) ∧ nb = []
  | .imm n rows, v, nb => nb = [] ∧ ∃ a cap, v = .slice a rows.length cap ∧ rows.length ≤ cap ∧
      (rows = [] ∨ ∃ bl off, a = some ⟨bl, off, none⟩ ∧ ¬ O bl ∧ bl < w.heap.size ∧ RR w O EN n bl off rows [])
  | .own n rows, v, nb => (rows = [] ∧ (∃ a, v = .slice a 0 0) ∧ nb = []) ∨ ∃ bl n' cap, nb = bl :: n' ∧ v = .slice (some ⟨bl, 0, none⟩) rows.length cap ∧ rows.length ≤ cap ∧ Whole w bl (cap * n) ∧ RR w O EN n bl 0 rows n'
  | .sl j, v, nb => nb = [] ∧ j < E.sz ∧ (∀ n len, E.of j = some (none, n, len) → ∃ a, v = .slice a 0 0) ∧ ∀ bl n len, E.of j = some (some bl, n, len) →
      ∃ cap, v = .slice (some ⟨bl, 0, none⟩) len cap ∧ len ≤ cap ∧ Whole w bl (cap * n)
  | .ptr j i o, v, nb => nb = [] ∧ j < E.sz ∧ (∀ n len, E.of j ≠ some (none, n, len)) ∧ ∀ bl n len, E.of j = some (some bl, n, len) → v = .pointer (some ⟨bl, i * n + o, none⟩)
  | .iptr n rows i o, v, nb => nb = [] ∧ ∃ bl off, v = .pointer (some ⟨bl, off + (i * n + o), none⟩) ∧ ¬ O bl ∧ bl < w.heap.size ∧ RR w O EN n bl off rows []
  | .agg cs, v, nb => ∃ vs, v = .agg vs ∧ XRs w O E cs vs.toList nb
  | .tup cs, v, nb => ∃ vs, v = .tuple vs ∧ XRs w O E cs vs.toList nb
  | .clo f cs, v, nb => nb = [] ∧ ∃ vs, v = .func (.func f) #[] vs ∧ XRs w O E cs vs.toList []
def XRs (w : World) (O : Nat → Prop) (E : EI) : List AV → List Value → List Nat → Prop
  | [], vs, nb => vs = [] ∧ nb = []
  | c :: cs, vs, nb => ∃ v vs' n1 n2, vs = v :: vs' ∧ nb = n1 ++ n2 ∧ XR w O E c v n1 ∧ XRs w O E cs vs' n2
def CR (w : World) (O : Nat → Prop) (E : EI) (bl : Nat) (o : Nat) : List AV → List Nat → Prop
  | [], nb => nb = []
  | c :: cs, nb => ∃ v n1 n2, (w.cell? ⟨bl, o, none⟩ = some v ∧ oneCell v = true) ∧ nb = n1 ++ n2 ∧ XR w O E c v n1 ∧ CR w O E bl (o + 1) cs n2
def RR (w : World) (O : Nat → Prop) (E : EI) (n : Nat) (bl : Nat) (off : Nat) : List (List AV) → List Nat → Prop
  | [], nb => nb = []
  | r :: rs, nb => ∃ n1 n2, nb = n1 ++ n2 ∧ r.length = n ∧ CR w O E bl off r n1 ∧ RR w O E n bl (off + n) rs n2
end

/-- What must hold for the values to say of w' what they said of w: blocks outside O, and those of the value's own, read the same. -/
structure Same (O : Nat → Prop) (E : EI) (w : World) (O' : Nat → Prop) (E' : EI) (w' : World) : Prop where
  size : w.heap.size ≤ w'.heap.size
  out : ∀ bl, ¬ O bl → bl < w.heap.size → w'.heap[bl]? = w.heap[bl]?
  bar : ∀ bl, ¬ O bl → bl < w.heap.size → ¬ O' bl
  sz : E.sz ≤ E'.sz
  ei : ∀ j p, j < E.sz → E'.of j = some p → E.of j = some p
  who : ∀ j bl n len m, j < E.sz → E'.of j = some (some bl, n, len) → Whole w bl m → Whole w' bl m

theorem cell_lt {w : World} {bl o : Nat} {s : Option Nat} {v : Value} (h : w.cell? ⟨bl, o, s⟩ = some v) : bl < w.heap.size := by
  unfold World.cell? at h
  rcases Nat.lt_or_ge bl w.heap.size with h' | h'
  · exact h'
  · rw [Array.getElem?_eq_none h'] at h; cases h
theorem cell_same {w w' : World} {bl o : Nat} {s : Option Nat} (h : w'.heap[bl]? = w.heap[bl]?) : w'.cell? ⟨bl, o, s⟩ = w.cell? ⟨bl, o, s⟩ := by
  unfold World.cell?; rw [h]
theorem Whole.lt {w : World} {b m : Nat} (h : Whole w b m) : b < w.heap.size := by
  obtain ⟨c, el, h, _⟩ := h
  rcases Nat.lt_or_ge b w.heap.size with h' | h'
  · exact h'
  · rw [Array.getElem?_eq_none h'] at h; cases h
theorem Whole.same {w w' : World} {b m : Nat} (h : w'.heap[b]? = w.heap[b]?) (hw : Whole w b m) : Whole w' b m := by
  obtain ⟨c, el, h1, h2⟩ := hw; exact ⟨c, el, h ▸ h1, h2⟩
theorem Whole.le {w : World} {b m m' : Nat} (h : Whole w b m) (hm : m' ≤ m) : Whole w b m' := by
  obtain ⟨c, el, h1, h2⟩ := h; exact ⟨c, el, h1, by omega⟩

theorem Same.en {O O' : Nat → Prop} {E E' : EI} {w w' : World} (h : Same O E w O' E' w') : Same O EN w O' EN w' :=
  ⟨h.size, h.out, h.bar, Nat.le_refl _, fun _ _ h => (by cases h), fun _ _ _ _ _ h => by cases h⟩

mutual
theorem XR.mono {O O' : Nat → Prop} {w w' : World} : ∀ (a : AV) {E E' : EI} (h : Same O E w O' E' w') (v : Value) (nb : List Nat), (∀ b ∈ nb, w'.heap[b]? = w.heap[b]?) → XR w O E a v nb → XR w' O' E' a v nb
  | .u, _, _, _, _, _, _, h => h
  | .b _, _, _, _, _, _, _, h => by simpa only [XR] using h
  | .i _ _, _, _, _, _, _, _, h => by simpa only [XR] using h
  | .s _, _, _, _, _, _, _, h => by simpa only [XR] using h
  | .nil, _, _, _, _, _, _, h => by simpa only [XR] using h
  | .imm n rows, E, E', hs, v, nb, hn, h => by
    simp only [XR] at h ⊢
    obtain ⟨h0, a, cap, h1, h2, h3⟩ := h
    refine ⟨h0, a, cap, h1, h2, ?_⟩
    rcases h3 with h3 | ⟨bl, off, h3, h4, hl, h5⟩
    · exact .inl h3
    · exact .inr ⟨bl, off, h3, hs.bar _ h4 hl, Nat.lt_of_lt_of_le hl hs.size, RR.mono rows hs.en bl off [] (hs.out _ h4 hl) (by simp) h5⟩
  | .own n rows, E, E', hs, v, nb, hn, h => by
    simp only [XR] at h ⊢
    rcases h with h | ⟨bl, n', cap, h0, h1, h2, h3, h4⟩
    · exact .inl h
    subst h0
    have hb := hn bl (by simp)
    exact .inr ⟨bl, n', cap, rfl, h1, h2, h3.same hb, RR.mono rows hs.en bl 0 n' hb (fun b hb => hn b (by simp [hb])) h4⟩
  | .sl j, E, E', hs, v, nb, hn, h => by
    simp only [XR] at h ⊢
    refine ⟨h.1, Nat.lt_of_lt_of_le h.2.1 hs.sz, fun n len he => h.2.2.1 n len (hs.ei _ _ h.2.1 he), fun bl n len he => ?_⟩
    obtain ⟨cap, h1, h2, h3⟩ := h.2.2.2 bl n len (hs.ei _ _ h.2.1 he)
    exact ⟨cap, h1, h2, hs.who _ _ _ _ _ h.2.1 he h3⟩
  | .ptr j i o, E, E', hs, v, nb, hn, h => by
    simp only [XR] at h ⊢
    exact ⟨h.1, Nat.lt_of_lt_of_le h.2.1 hs.sz, fun n len he => h.2.2.1 n len (hs.ei _ _ h.2.1 he), fun bl n len he => h.2.2.2 bl n len (hs.ei _ _ h.2.1 he)⟩
  | .iptr n rows i o, E, E', hs, v, nb, hn, h => by
    simp only [XR] at h ⊢
    obtain ⟨h0, bl, off, h1, h4, hl, h5⟩ := h
    exact ⟨h0, bl, off, h1, hs.bar _ h4 hl, Nat.lt_of_lt_of_le hl hs.size, RR.mono rows hs.en bl off [] (hs.out _ h4 hl) (by simp) h5⟩
  | .agg cs, E, E', hs, v, nb, hn, h => by
    simp only [XR] at h ⊢
    obtain ⟨vs, h1, h2⟩ := h
    exact ⟨vs, h1, XRs.mono cs hs _ _ hn h2⟩
  | .tup cs, E, E', hs, v, nb, hn, h => by
    simp only [XR] at h ⊢
    obtain ⟨vs, h1, h2⟩ := h
    exact ⟨vs, h1, XRs.mono cs hs _ _ hn h2⟩
  | .clo f cs, E, E', hs, v, nb, hn, h => by
    simp only [XR] at h ⊢
    obtain ⟨h0, vs, h1, h2⟩ := h
    exact ⟨h0, vs, h1, XRs.mono cs hs _ _ (by simp) h2⟩
theorem XRs.mono {O O' : Nat → Prop} {w w' : World} : ∀ (cs : List AV) {E E' : EI} (h : Same O E w O' E' w') (vs : List Value) (nb : List Nat), (∀ b ∈ nb, w'.heap[b]? = w.heap[b]?) → XRs w O E cs vs nb → XRs w' O' E' cs vs nb
  | [], _, _, _, _, _, _, h => by simpa only [XRs] using h
  | c :: cs, E, E', hs, vs, nb, hn, h => by
    simp only [XRs] at h ⊢
    obtain ⟨v, vs', n1, n2, h1, h2, h3, h4⟩ := h
    subst h2
    exact ⟨v, vs', n1, n2, h1, rfl, XR.mono c hs _ _ (fun b hb => hn b (by simp [hb])) h3, XRs.mono cs hs _ _ (fun b hb => hn b (by simp [hb])) h4⟩
theorem CR.mono {O O' : Nat → Prop} {w w' : World} : ∀ (cs : List AV) {E E' : EI} (h : Same O E w O' E' w') (bl o : Nat) (nb : List Nat), w'.heap[bl]? = w.heap[bl]? → (∀ b ∈ nb, w'.heap[b]? = w.heap[b]?) → CR w O E bl o cs nb → CR w' O' E' bl o cs nb
  | [], _, _, _, _, _, _, _, _, h => by simpa only [CR] using h
  | c :: cs, E, E', hs, bl, o, nb, hb, hn, h => by
    simp only [CR] at h ⊢
    obtain ⟨v, n1, n2, h1, h2, h3, h4⟩ := h
    subst h2
    exact ⟨v, n1, n2, ⟨by rw [cell_same hb]; exact h1.1, h1.2⟩, rfl, XR.mono c hs _ _ (fun b hb => hn b (by simp [hb])) h3, CR.mono cs hs _ _ _ hb (fun b hb => hn b (by simp [hb])) h4⟩
theorem RR.mono {O O' : Nat → Prop} {w w' : World} : ∀ (rs : List (List AV)) {E E' : EI} {n : Nat} (h : Same O E w O' E' w') (bl off : Nat) (nb : List Nat), w'.heap[bl]? = w.heap[bl]? → (∀ b ∈ nb, w'.heap[b]? = w.heap[b]?) → RR w O E n bl off rs nb → RR w' O' E' n bl off rs nb
  | [], _, _, _, _, _, _, _, _, _, h => by simpa only [RR] using h
  | r :: rs, E, E', n, hs, bl, off, nb, hb, hn, h => by
    simp only [RR] at h ⊢
    obtain ⟨n1, n2, h1, h2, h3, h4⟩ := h
    subst h1
    exact ⟨n1, n2, rfl, h2, CR.mono r hs _ _ _ hb (fun b hb => hn b (by simp [hb])) h3, RR.mono rs hs _ _ _ hb (fun b hb => hn b (by simp [hb])) h4⟩
end

abbrev RHO := Nat → Option Nat × List Nat
def fp (ρ : RHO) (j : Nat) : List Nat := (ρ j).1.toList ++ (ρ j).2
theorem fp_hd {ρ : RHO} {j b : Nat} (h : (ρ j).1 = some b) : b ∈ fp ρ j := by simp [fp, h]
theorem fp_tl {ρ : RHO} {j b : Nat} (h : b ∈ (ρ j).2) : b ∈ fp ρ j := by simp [fp, h]
def EK (K : KS) (ρ : RHO) : EI := ⟨K.length, fun j => (kg K j).map fun e => ((ρ j).1, e.n, e.rows.length)⟩
def Ent.E (E : EI) : Ent → EI
  | .box _ => E
  | .lst _ _ => EN
def Ent.isBox : Ent → Bool
  | .box _ => true
  | .lst _ _ => false
def Reg (w : World) (O : Nat → Prop) (E : EI) (e : Ent) (b : Option Nat) (nb : List Nat) : Prop :=
  match b with
  | some b => Whole w b (e.rows.length * e.n) ∧ RR w O (e.E E) e.n b 0 e.rows nb ∧ (e.isBox = true → nb = [])
  | none => e.rows = [] ∧ nb = []
structure Sees (w : World) (O : Nat → Prop) (K : KS) (ρ : RHO) : Prop where
  reg : ∀ j e, kg K j = some e → Reg w O (EK K ρ) e (ρ j).1 (ρ j).2
  nd : ∀ j e, kg K j = some e → (fp ρ j).Nodup
  lt : ∀ j e b, kg K j = some e → b ∈ fp ρ j → b < w.heap.size
  dj : ∀ j e k e' b, kg K j = some e → kg K k = some e' → j ≠ k → b ∈ fp ρ j → b ∉ fp ρ k
/-- The blocks that 'imm' may not lie in: one's own, and the barred ones. -/
def OO (K : KS) (ρ : RHO) (Y : Nat → Prop) : Nat → Prop := fun b => Y b ∨ ∃ j e, kg K j = some e ∧ b ∈ fp ρ j
/-- From w to w' nothing that was there has turned, but blocks of F. -/
structure Ext (F : Nat → Prop) (w w' : World) : Prop where
  os : w'.os = w.os
  tape : w'.tape = w.tape
  output : w'.output = w.output
  size : w.heap.size ≤ w'.heap.size
  block : ∀ b, b < w.heap.size → ¬ F b → w'.heap[b]? = w.heap[b]?
  who : ∀ b m, Whole w b m → Whole w' b m
theorem Ext.refl (F : Nat → Prop) (w : World) : Ext F w w := ⟨rfl, rfl, rfl, Nat.le_refl _, fun _ _ _ => rfl, fun _ _ h => h⟩
theorem Ext.of_below {w w' : World} (h : Go.RowKit.Below w.heap.size w w') (F : Nat → Prop) : Ext F w w' := ⟨h.os, h.tape, h.output, h.size, fun b hb _ => h.block b hb, fun b m hw => hw.same (h.block b hw.lt)⟩
theorem Ext.trans {F G H : Nat → Prop} {a b c : World} (h : Ext F a b) (k : Ext G b c) (hF : ∀ x, F x → H x) (hG : ∀ x, x < a.heap.size → G x → H x) : Ext H a c :=
  ⟨k.os.trans h.os, k.tape.trans h.tape, k.output.trans h.output, Nat.le_trans h.size k.size, fun i hi hn =>
    (k.block i (Nat.lt_of_lt_of_le hi h.size) (fun g => hn (hG i hi g))).trans (h.block i hi (fun f => hn (hF i f))), fun b m hw => k.who b m (h.who b m hw)⟩
theorem Ext.below {w w' : World} {F : Nat → Prop} (h : Ext F w w') (hF : ∀ b, ¬ F b) : Go.RowKit.Below w.heap.size w w' :=
  ⟨h.os, h.tape, h.output, h.size, fun k hk => h.block k hk (hF k)⟩

theorem Reg.at {O : Nat → Prop} {E : EI} {w : World} {e : Ent} {b : Option Nat} {nb : List Nat} {bl : Nat} (hb : b = some bl)
    (h : Whole w bl (e.rows.length * e.n) ∧ RR w O (e.E E) e.n bl 0 e.rows nb ∧ (e.isBox = true → nb = [])) : Reg w O E e b nb := by
  subst hb; exact h
theorem Reg.mono {O O' : Nat → Prop} {E E' : EI} {w w' : World} {e : Ent} {b : Option Nat} {nb : List Nat} (hE : Same O (e.E E) w O' (e.E E') w') (hb : ∀ x, b = some x → w'.heap[x]? = w.heap[x]?)
    (hn : ∀ x ∈ nb, w'.heap[x]? = w.heap[x]?) (h : Reg w O E e b nb) : Reg w' O' E' e b nb := by
  cases b with
  | none => exact h
  | some b => exact ⟨h.1.same (hb b rfl), RR.mono _ hE _ _ _ (hb b rfl) hn h.2.1, h.2.2⟩
/-- How many slots there are, and the regions that keep their shapes and blocks, or go. -/
structure NE where
  n : Nat
  E : EI
def Keep (E E' : EI) : Prop := E.sz ≤ E'.sz ∧ ∀ j p, j < E.sz → E'.of j = some p → E.of j = some p
theorem Same.keep {O O' : Nat → Prop} {E E' E0 : EI} {w w' : World} (h : Same O E w O' E' w') (hk : Keep E0 E) : Keep E0 E' :=
  ⟨Nat.le_trans hk.1 h.sz, fun j p hj hp => hk.2 j p hj (h.ei j p (Nat.lt_of_lt_of_le hj hk.1) hp)⟩

/-- What is known of the world all along: it stands where nothing that was there has turned. -/
class Wd : Type where
  I : World → Prop
  keep : ∀ {w w' : World}, Ext (fun _ => False) w w' → I w → I w'

/-- The state of a walk: frame and regions, and what they say of the act and the world. -/
structure Sim [Wd] (n : NE) (Y : Nat → Prop) (w0 : World) (F0 : Nat → Prop) (ρ : RHO) (f : Fr) (K : KS) (a : Act) (w : World) : Prop where
  defers : a.defers = []
  size : a.tmps.size = n.n
  keep : Keep n.E (EK K ρ)
  fr : ∀ t, XR w (OO K ρ Y) (EK K ρ) (f t) (a.tmps.getD t undef) []
  sees : Sees w (OO K ρ Y) K ρ
  ext : Ext F0 w0 w
  new : ∀ j e b, kg K j = some e → b ∈ fp ρ j → F0 b ∨ w0.heap.size ≤ b
  yl : (∀ b, Y b → b < w0.heap.size ∧ ¬ F0 b) ∧ ∀ w', Ext F0 w0 w' → Wd.I w'

theorem Sim.lift [Wd] {n : NE} {Y : Nat → Prop} {w0 : World} {F0 : Nat → Prop} {ρ ρ' : RHO} {f : Fr} {K K' : KS} {a : Act} {w w' : World} (h : Sim n Y w0 F0 ρ f K a w)
    (hs : Same (OO K ρ Y) (EK K ρ) w (OO K' ρ' Y) (EK K' ρ') w') (J : Nat)
    (hold : ∀ j e, kg K' j = some e → j ≠ J → kg K j = some e ∧ ρ' j = ρ j ∧ ∀ b ∈ fp ρ j, w'.heap[b]? = w.heap[b]?)
    (hnew : ∀ e, kg K' J = some e → Reg w' (OO K' ρ' Y) (EK K' ρ') e (ρ' J).1 (ρ' J).2 ∧ (fp ρ' J).Nodup ∧ (∀ b ∈ fp ρ' J, b < w'.heap.size ∧ (w.heap.size ≤ b ∨ ∃ i e', kg K i = some e' ∧ b ∈ fp ρ i ∧ (i = J ∨ kg K' i = none))))
    (hext : Ext F0 w0 w') : Sim n Y w0 F0 ρ' f K' a w' := by
  have hlt : ∀ j e, kg K j = some e → kg K' j = some e → ∀ b ∈ fp ρ j, b < w.heap.size := fun j e hj _ b hb => h.sees.lt j e b hj hb
  refine ⟨h.defers, h.size, hs.keep h.keep, fun t => XR.mono (f t) hs _ _ (by simp) (h.fr t), ⟨?_, ?_, ?_, ?_⟩, hext, ?_, h.yl⟩
  · intro j e hj
    by_cases hJ : j = J
    · subst hJ; exact (hnew e hj).1
    · obtain ⟨h1, h2, h3⟩ := hold j e hj hJ
      have hr := h.sees.reg j e h1
      rw [h2]
      have hE : Same (OO K ρ Y) (e.E (EK K ρ)) w (OO K' ρ' Y) (e.E (EK K' ρ')) w' := by
        cases e with
        | box cs => exact hs
        | lst n rows => exact hs.en
      exact Reg.mono hE (fun b hb => h3 b (fp_hd hb)) (fun b hb => h3 b (fp_tl hb)) hr
  · intro j e hj
    by_cases hJ : j = J
    · subst hJ; exact (hnew e hj).2.1
    · obtain ⟨h1, h2, h3⟩ := hold j e hj hJ
      have := h.sees.nd j e h1
      unfold fp at *; rw [h2]; exact this
  · intro j e b hj hb
    by_cases hJ : j = J
    · subst hJ; exact ((hnew e hj).2.2 b hb).1
    · obtain ⟨h1, h2, h3⟩ := hold j e hj hJ
      unfold fp at hb; rw [h2] at hb
      exact Nat.lt_of_lt_of_le (h.sees.lt j e b h1 hb) hs.size
  · have key : ∀ k e', kg K' k = some e' → k ≠ J → ∀ e, kg K' J = some e → ∀ b ∈ fp ρ' J, b ∉ fp ρ' k := by
      intro k e' hk hkJ e hJ b hb hbk
      obtain ⟨h1, h2, h3⟩ := hold k e' hk hkJ
      have hbk' : b ∈ fp ρ k := by unfold fp at hbk ⊢; rw [h2] at hbk; exact hbk
      rcases ((hnew e hJ).2.2 b hb).2 with h4 | ⟨i, e'', h4, h5, h6⟩
      · have := h.sees.lt k e' b h1 hbk'; omega
      · have hik : i ≠ k := by
          rintro rfl
          rcases h6 with h6 | h6
          · exact hkJ h6
          · rw [hk] at h6; cases h6
        exact h.sees.dj i e'' k e' b h4 h1 hik h5 hbk'
    intro j e k e' b hj hk hjk hb hbk
    by_cases hJ : j = J
    · subst hJ; exact key k e' hk (Ne.symm hjk) e hj b hb hbk
    · by_cases hKJ : k = J
      · subst hKJ; exact key j e hj hjk e' hk b hbk hb
      · obtain ⟨h1, h2, _⟩ := hold j e hj hJ
        obtain ⟨h3, h4, _⟩ := hold k e' hk hKJ
        unfold fp at hb hbk; rw [h2] at hb; rw [h4] at hbk
        exact h.sees.dj j e k e' b h1 h3 hjk hb hbk
  · intro j e b hj hb
    by_cases hJ : j = J
    · subst hJ
      rcases ((hnew e hj).2.2 b hb).2 with h4 | ⟨i, e'', h4, h5, _⟩
      · exact .inr (Nat.le_trans h.ext.size h4)
      · exact h.new i e'' b h4 h5
    · obtain ⟨h1, h2, h3⟩ := hold j e hj hJ
      unfold fp at hb; rw [h2] at hb
      exact h.new j e b h1 hb
end Go.Proofs.Ytcpelionmmnogaa.Am
