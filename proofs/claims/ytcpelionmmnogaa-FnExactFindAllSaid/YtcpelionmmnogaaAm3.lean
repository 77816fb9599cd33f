/- An abstract machine for the walks: its steps on values alone are right. No condition. -/
import Derived.Test.YtcpelionmmnogaaAm2
import Derived.Laws.Sem
import Derived.Laws.Strings
import Derived.Laws.StructEq
namespace Go.Proofs.Ytcpelionmmnogaa.Am
open Go
set_option linter.unusedVariables false
set_option linter.unusedSimpArgs false

theorem cv_ok (w : World) (O : Nat → Prop) (E : EI) (v : Value) : XR w O E (cv v) v [] := by
  unfold cv
  split <;> simp [XR]

theorem str_append (a b : List UInt8) : (⟨a.toArray⟩ : ByteArray) ++ ⟨b.toArray⟩ = ⟨(a ++ b).toArray⟩ := by
  ext1; simp

section
variable {P : Program} {n : NE} {Y : Nat → Prop} {w0 : World} {F0 : Nat → Prop} {ρ : RHO} {f : Fr} {K : KS} {a : Act} {w : World}

theorem Sim.ev [Wd] (h : Sim n Y w0 F0 ρ f K a w) (x : Operand) : XR w (OO K ρ Y) (EK K ρ) (ev f x) (a.eval x) [] := by
  cases x with
  | tmp t => exact h.fr t
  | const v => exact cv_ok _ _ _ _
  | global g => simp [Am.ev, XR]
  | func g => simp [Am.ev, XR, XRs, Act.eval]

theorem Sim.put [Wd] (h : Sim n Y w0 F0 ρ f K a w) {d : Nat} {v : Value} {av : AV} (hd : d < n.n) (hv : XR w (OO K ρ Y) (EK K ρ) av v []) :
    Sim n Y w0 F0 ρ (up f d av) K (a.put (some d) v) w := by
  refine ⟨h.defers, by simp [Act.put, h.size], h.keep, fun t => ?_, h.sees, h.ext, h.new, h.yl⟩
  simp only [Act.put, up]
  by_cases ht : t = d
  · subst ht
    have : t < a.tmps.size := by rw [h.size]; exact hd
    simp [this, hv]
  · have := h.fr t
    rw [if_neg ht]
    simpa [Array.getElem?_setIfInBounds, Ne.symm ht] using this
theorem Sim.put_none [Wd] (h : Sim n Y w0 F0 ρ f K a w) {v : Value} : Sim n Y w0 F0 ρ f K (a.put none v) w := h

/-- What an operation comes to: the frame that was, what is put into it, and what holds then. -/
def Out [Wd] (n : NE) (Y : Nat → Prop) (w0 : World) (F0 : Nat → Prop) (f : Fr) (a : Act) (k : AV → KS → Prop) (v : Value) (w' : World) : Prop :=
  ∃ av K' ρ', Sim n Y w0 F0 ρ' f K' a w' ∧ XR w' (OO K' ρ' Y) (EK K' ρ') av v [] ∧ k av K'

theorem Out.here [Wd] (h : Sim n Y w0 F0 ρ f K a w) {av : AV} {v : Value} {k : AV → KS → Prop} (hv : XR w (OO K ρ Y) (EK K ρ) av v []) (hk : k av K) : Out n Y w0 F0 f a k v w :=
  ⟨av, K, ρ, h, hv, hk⟩

/-- A step on values: it yields in any world what it yields here. -/
def Yl (P : Program) (s : Sem Value) (v : Value) : Prop := ∀ w, s.run P w = .ok v w

theorem teq_eq (d : Nat) (t : TypeId) : teq P (d + 1) t = (match P.underlying t with
    | some .bool => some [.b]
    | some (.int _) => some [.i]
    | some .string => some [.s]
    | some (.struct fs) => if P.stoodInHeld t = true then none else teqFs (teq P d) P fs.toList 0
    | _ => none) := by rw [teq]; rfl
theorem cellsEq_t (ks : List CK) (xs ys : List AV) : cellsEq (.t :: ks) xs ys = none := by
  cases xs with
  | nil => cases ys <;> rfl
  | cons x xs => cases ys with
    | nil => cases x <;> rfl
    | cons y ys => cases x <;> cases y <;> rfl
/-- A value has the form of its type: a struct, or one cell. -/
def Fits (P : Program) (t : TypeId) (v : Value) : Prop :=
  match P.underlying t with
  | some (.struct _) => ∃ cs, v = .agg cs
  | _ => ∀ cs, v ≠ .agg cs
theorem cellsEq_len : ∀ {ks : List CK} {xs ys : List AV} {b : Bool}, cellsEq ks xs ys = some b → xs.length = ks.length ∧ ys.length = ks.length
  | ks, xs, ys, b, h => by
    unfold cellsEq at h
    split at h
    · simp
    · split at h
      · obtain ⟨b', h', _⟩ := Option.map_eq_some_iff.1 h
        have := cellsEq_len h'; simp [this]
      · cases h
    · obtain ⟨b', h', _⟩ := Option.map_eq_some_iff.1 h
      have := cellsEq_len h'; simp [this]
    · obtain ⟨b', h', _⟩ := Option.map_eq_some_iff.1 h
      have := cellsEq_len h'; simp [this]
    · cases h
theorem cellsEq_app : ∀ {k1 k2 : List CK} {xs ys : List AV} {b : Bool}, cellsEq (k1 ++ k2) xs ys = some b → ∃ b1 b2, b = (b1 && b2) ∧ cellsEq k1 (xs.take k1.length) (ys.take k1.length) = some b1 ∧ cellsEq k2 (xs.drop k1.length) (ys.drop k1.length) = some b2
  | [], k2, xs, ys, b, h => ⟨true, b, by simp, by simp [cellsEq], by simpa using h⟩
  | .i :: k1, k2, xs, ys, b, h => by
    cases xs with
    | nil => simp [cellsEq] at h
    | cons x xs => cases ys with
      | nil => cases x <;> simp [cellsEq] at h
      | cons y ys =>
        cases x <;> cases y <;> simp only [List.cons_append, cellsEq] at h <;> try cases h
        split at h
        · rename_i hk
          obtain ⟨b', h', rfl⟩ := Option.map_eq_some_iff.1 h
          obtain ⟨b1, b2, rfl, h1, h2⟩ := cellsEq_app h'
          refine ⟨_ && b1, b2, (Bool.and_assoc _ _ _).symm, ?_, by simpa using h2⟩
          simp only [List.length_cons, List.take_succ_cons, cellsEq, if_pos hk, h1, Option.map_some]
        · cases h
  | .b :: k1, k2, xs, ys, b, h => by
    cases xs with
    | nil => simp [cellsEq] at h
    | cons x xs => cases ys with
      | nil => cases x <;> simp [cellsEq] at h
      | cons y ys =>
        cases x <;> cases y <;> simp only [List.cons_append, cellsEq] at h <;> try cases h
        obtain ⟨b', h', rfl⟩ := Option.map_eq_some_iff.1 h
        obtain ⟨b1, b2, rfl, h1, h2⟩ := cellsEq_app h'
        refine ⟨_ && b1, b2, (Bool.and_assoc _ _ _).symm, ?_, by simpa using h2⟩
        simp only [List.length_cons, List.take_succ_cons, cellsEq, h1, Option.map_some]
  | .s :: k1, k2, xs, ys, b, h => by
    cases xs with
    | nil => simp [cellsEq] at h
    | cons x xs => cases ys with
      | nil => cases x <;> simp [cellsEq] at h
      | cons y ys =>
        cases x <;> cases y <;> simp only [List.cons_append, cellsEq] at h <;> try cases h
        obtain ⟨b', h', rfl⟩ := Option.map_eq_some_iff.1 h
        obtain ⟨b1, b2, rfl, h1, h2⟩ := cellsEq_app h'
        refine ⟨_ && b1, b2, (Bool.and_assoc _ _ _).symm, ?_, by simpa using h2⟩
        simp only [List.length_cons, List.take_succ_cons, cellsEq, h1, Option.map_some]
  | .t :: k1, k2, xs, ys, b, h => by rw [List.cons_append, cellsEq_t] at h; cases h
theorem XRs_get {O : Nat → Prop} {E : EI} : ∀ {cs : List AV} {vs : List Value} {i : Nat} {c : AV}, XRs w O E cs vs [] → cs[i]? = some c → ∃ v, vs[i]? = some v ∧ XR w O E c v []
  | [], _, _, _, _, h => by cases h
  | c :: cs, vs, i, d, h, hi => by
    simp only [XRs] at h
    obtain ⟨v, vs', n1, n2, rfl, h2, h3, h4⟩ := h
    obtain ⟨rfl, rfl⟩ := List.append_eq_nil_iff.1 h2.symm
    cases i with
    | zero => simp at hi; subst hi; exact ⟨v, by simp, h3⟩
    | succ i => simpa using XRs_get h4 (by simpa using hi)
theorem XRs_length {O : Nat → Prop} {E : EI} : ∀ {cs : List AV} {vs : List Value} {nb : List Nat}, XRs w O E cs vs nb → vs.length = cs.length
  | [], _, _, h => by simp only [XRs] at h; simp [h.1]
  | c :: cs, vs, nb, h => by
    simp only [XRs] at h
    obtain ⟨v, vs', n1, n2, rfl, h2, h3, h4⟩ := h
    simp [XRs_length h4]
theorem XRs_drop {O : Nat → Prop} {E : EI} : ∀ (i : Nat) {cs : List AV} {vs : List Value}, XRs w O E cs vs [] → XRs w O E (cs.drop i) (vs.drop i) []
  | 0, _, _, h => by simpa using h
  | i + 1, [], _, h => by simp only [XRs] at h; simp [h.1, XRs]
  | i + 1, c :: cs, vs, h => by
    simp only [XRs] at h
    obtain ⟨v, vs', n1, n2, rfl, h2, h3, h4⟩ := h
    obtain ⟨rfl, rfl⟩ := List.append_eq_nil_iff.1 h2.symm
    simpa using XRs_drop i h4
theorem XRs_take {O : Nat → Prop} {E : EI} : ∀ (i : Nat) {cs : List AV} {vs : List Value}, XRs w O E cs vs [] → XRs w O E (cs.take i) (vs.take i) []
  | 0, _, _, h => by simp [XRs]
  | i + 1, [], _, h => by simp only [XRs] at h; simp [h.1, XRs]
  | i + 1, c :: cs, vs, h => by
    simp only [XRs] at h
    obtain ⟨v, vs', n1, n2, rfl, h2, h3, h4⟩ := h
    obtain ⟨rfl, rfl⟩ := List.append_eq_nil_iff.1 h2.symm
    simp only [List.take_succ_cons, XRs]
    exact ⟨v, _, [], [], rfl, rfl, h3, XRs_take i h4⟩

theorem cells_one' {x : Value} (h : ∀ cs, x ≠ .agg cs) : x.cells.toList = [x] := by
  cases x <;> first | rfl | exact absurd rfl (h _)
theorem str_beq (a b : List UInt8) : ((⟨a.toArray⟩ : ByteArray) == ⟨b.toArray⟩) = decide (a = b) := by
  rw [beq_toListBytes, ByteArray.toList_eq, ByteArray.toList_eq]
  by_cases h : a = b
  · subst h; simp
  · simp [h]
def AV.plain : AV → Bool
  | .i _ _ | .b _ | .s _ => true
  | _ => false
theorem cellsEq_plain : ∀ {ks : List CK} {xs ys : List AV} {b : Bool}, cellsEq ks xs ys = some b → (∀ x ∈ xs, x.plain = true) ∧ ∀ y ∈ ys, y.plain = true
  | ks, xs, ys, b, h => by
    unfold cellsEq at h
    split at h
    · simp
    · split at h
      · obtain ⟨b', h', _⟩ := Option.map_eq_some_iff.1 h
        have := cellsEq_plain h'; simp [AV.plain]; exact this
      · cases h
    · obtain ⟨b', h', _⟩ := Option.map_eq_some_iff.1 h
      have := cellsEq_plain h'; simp [AV.plain]; exact this
    · obtain ⟨b', h', _⟩ := Option.map_eq_some_iff.1 h
      have := cellsEq_plain h'; simp [AV.plain]; exact this
    · cases h
theorem plain_no {O : Nat → Prop} {E : EI} : ∀ {xs : List AV} {vs : List Value}, (∀ x ∈ xs, x.plain = true) → XRs w O E xs vs [] → ∀ v ∈ vs, ∀ cs, v ≠ .agg cs
  | [], vs, _, h => by simp only [XRs] at h; simp [h.1]
  | x :: xs, vs, hp, h => by
    simp only [XRs] at h
    obtain ⟨v, vs', n1, n2, rfl, h2, h3, h4⟩ := h
    obtain ⟨rfl, rfl⟩ := List.append_eq_nil_iff.1 h2.symm
    intro u hu
    rcases List.mem_cons.1 hu with rfl | hu
    · intro cs
      have := hp x (by simp)
      cases x <;> simp [AV.plain] at this <;> simp only [XR] at h3 <;> rw [h3.1] <;> simp
    · exact plain_no (fun x hx => hp x (by simp [hx])) h4 u hu
/-- A part of a struct's value. -/
theorem run_part {t : TypeId} {d : TypeDesc} {m : Nat} {cs : Array Value} {o : Nat} (hz : tz P t = some m) (ho : o + m ≤ cs.size) (hu : P.underlying t = some d) (hk : (∃ fs, d = .struct fs) ∨ (m = 1 ∧ isAggD d = false))
    (hn : ∀ v ∈ (cs.toList.drop o).take m, ∀ cs, v ≠ .agg cs) :
    ∃ v, (∀ w : World, (part t cs o).run P w = .ok v w) ∧ Fits P t v ∧ v.cells.toList = (cs.toList.drop o).take m := by
  have hs : ∀ w : World, (sizeOf t).run P w = .ok m w := by
    intro w
    unfold tz at hz
    cases hi : P.info? t with
    | none => rw [hi] at hz; cases hz
    | some i => rw [hi] at hz; simp at hz; simp [sizeOf, typeInfo, hi, hz]
  rcases hk with ⟨fs, rfl⟩ | ⟨rfl, hd⟩
  · refine ⟨.agg (cs.extract o (o + m)), fun w => ?_, by simp [Fits, hu], ?_⟩
    · simp [part, isAgg, underlying, hu, hs]
    · simp [Value.cells]
      
  · have hlt : o < cs.size := by omega
    have hl : (cs.toList.drop o).take 1 = [cs[o]] := by
      rw [List.drop_eq_getElem_cons (by simpa using hlt)]; simp
    have hno : ∀ c, cs[o] ≠ .agg c := hn _ (by rw [hl]; simp)
    refine ⟨cs[o], fun w => ?_, ?_, ?_⟩
    · have : (isAgg t).run P w = .ok false w := by
        cases d <;> first | (simp [isAggD] at hd; done) | simp [isAgg, underlying, hu]
      simp only [part, Sem.run_bind, this, Result.andThen_ok]
      simp [hlt]
    · unfold Fits; rw [hu]
      cases d <;> first | (simp [isAggD] at hd; done) | exact hno
    · rw [hl, cells_one' hno]
theorem teq_kind {d : Nat} {t : TypeId} {ks : List CK} (h : teq P d t = some ks) : ∃ ds, P.underlying t = some ds ∧ ((∃ fs, ds = .struct fs) ∨ (ks.length = 1 ∧ isAggD ds = false)) := by
  cases d with
  | zero => rw [teq] at h; cases h
  | succ d =>
    rw [teq_eq] at h
    split at h
    · rename_i hu; injection h with h; subst h; exact ⟨_, hu, .inr ⟨rfl, rfl⟩⟩
    · rename_i hu; injection h with h; subst h; exact ⟨_, hu, .inr ⟨rfl, rfl⟩⟩
    · rename_i hu; injection h with h; subst h; exact ⟨_, hu, .inr ⟨rfl, rfl⟩⟩
    · rename_i fs hu; exact ⟨_, hu, .inl ⟨_, rfl⟩⟩
    · cases h
theorem eqFs_ok {O : Nat → Prop} {E : EI} {d D : Nat} (ih : ∀ (t : TypeId) (ks : List CK) (vx vy : Value) (xs ys : List AV) (b : Bool), teq P d t = some ks → Fits P t vx → Fits P t vy →
      XRs w O E xs vx.cells.toList [] → XRs w O E ys vy.cells.toList [] → cellsEq ks xs ys = some b → ∀ w' : World, (Op.equalIn D t vx vy).run P w' = .ok b w') :
    ∀ (fs : List Field) (o : Nat) (ks : List CK) (vx vy : Array Value) (xs ys : List AV) (b : Bool), teqFs (teq P d) P fs o = some ks → XRs w O E xs (vx.toList.drop o) [] → XRs w O E ys (vy.toList.drop o) [] → cellsEq ks xs ys = some b →
      ∀ w' : World, (Op.eqFields D vx vy fs).run P w' = .ok b w'
  | [], o, ks, vx, vy, xs, ys, b, h, hx, hy, hc, w' => by
    rw [teqFs] at h
    injection h with h; subst h
    obtain ⟨h1, h2⟩ := cellsEq_len hc
    obtain rfl := List.length_eq_zero_iff.1 h1
    obtain rfl := List.length_eq_zero_iff.1 h2
    rw [cellsEq] at hc
    injection hc with hc; subst hc
    simp [Op.eqFields]
  | f :: fs, o, ks, vx, vy, xs, ys, b, h, hx, hy, hc, w' => by
    rw [teqFs] at h
    split at h
    · rename_i hf
      obtain ⟨rfl, hname⟩ := hf
      split at h
      · rename_i k1 hk1
        split at h
        · rename_i hz
          obtain ⟨k2, hk2, rfl⟩ := Option.map_eq_some_iff.1 h
          obtain ⟨b1, b2, rfl, hc1, hc2⟩ := cellsEq_app hc
          obtain ⟨ds, hu, hds⟩ := teq_kind hk1
          obtain ⟨hl1, hl2⟩ := cellsEq_len hc1
          obtain ⟨hp1, hp2⟩ := cellsEq_plain hc1
          have hX := XRs_take k1.length hx
          have hY := XRs_take k1.length hy
          have e1 := XRs_length hX
          have e2 := XRs_length hY
          rw [hl1] at e1
          rw [hl2] at e2
          simp at e1 e2
          have o1 : f.offset + k1.length ≤ vx.size ∨ k1.length = 0 := by omega
          have o2 : f.offset + k1.length ≤ vy.size ∨ k1.length = 0 := by omega
          have part1 : ∀ (v : Array Value), f.offset + k1.length ≤ v.size ∨ k1.length = 0 → (∀ u ∈ (v.toList.drop f.offset).take k1.length, ∀ cs, u ≠ .agg cs) → ∃ u, (∀ w : World, (part f.type v f.offset).run P w = .ok u w) ∧ Fits P f.type u ∧ u.cells.toList = (v.toList.drop f.offset).take k1.length := by
            intro v hv hn
            rcases hv with hv | hv
            · exact run_part hz hv hu hds hn
            · rcases hds with ⟨fs', rfl⟩ | ⟨h1, _⟩
              · refine ⟨.agg (v.extract f.offset (f.offset + k1.length)), fun w => ?_, by simp [Fits, hu], ?_⟩
                · have hs : (sizeOf f.type).run P w = .ok k1.length w := by
                    unfold tz at hz
                    cases hi : P.info? f.type with
                    | none => rw [hi] at hz; cases hz
                    | some i => rw [hi] at hz; simp at hz; simp [sizeOf, typeInfo, hi, hz]
                  simp [part, isAgg, underlying, hu, hs]
                · simp [Value.cells, hv]
              · omega
          obtain ⟨u1, p1, q1, r1⟩ := part1 vx o1 (plain_no hp1 hX)
          obtain ⟨u2, p2, q2, r2⟩ := part1 vy o2 (plain_no hp2 hY)
          have hr := ih f.type k1 u1 u2 _ _ b1 hk1 q1 q2 (by rw [r1]; exact hX) (by rw [r2]; exact hY) hc1
          have hx2 := XRs_drop k1.length hx
          have hy2 := XRs_drop k1.length hy
          rw [List.drop_drop] at hx2 hy2
          have hrec := eqFs_ok ih fs (f.offset + k1.length) k2 vx vy _ _ b2 hk2 hx2 hy2 hc2
          simp only [Op.eqFields, if_pos hname, Sem.run_bind, p1, p2, hr, Result.andThen_ok]
          cases b1
          · simp
          · simp [hrec]
        · cases h
      · cases h
    · cases h
theorem XRs_sing {O : Nat → Prop} {E : EI} {x : AV} {v : Value} (h : XRs w O E [x] [v] []) : XR w O E x v [] := by
  simp only [XRs] at h
  obtain ⟨u, us, n1, n2, h1, h2, h3, h4, _⟩ := h
  obtain ⟨rfl, rfl⟩ := List.append_eq_nil_iff.1 h2.symm
  injection h1 with h1
  rw [h1]; exact h3
theorem eqIn_ok {O : Nat → Prop} {E : EI} : ∀ (d D : Nat), d ≤ D → ∀ (t : TypeId) (ks : List CK) (vx vy : Value) (xs ys : List AV) (b : Bool), teq P d t = some ks → Fits P t vx → Fits P t vy →
      XRs w O E xs vx.cells.toList [] → XRs w O E ys vy.cells.toList [] → cellsEq ks xs ys = some b → ∀ w' : World, (Op.equalIn D t vx vy).run P w' = .ok b w'
  | 0, _, _, t, ks, vx, vy, xs, ys, b, h, _, _, _, _, _, _ => by rw [teq] at h; cases h
  | d + 1, 0, hd, _, _, _, _, _, _, _, _, _, _, _, _, _, _ => by omega
  | d + 1, D + 1, hd, t, ks, vx, vy, xs, ys, b, h, fx, fy, hx, hy, hc, w' => by
    rw [teq_eq] at h
    split at h
    · rename_i hu
      injection h with h; subst h
      unfold Fits at fx fy
      rw [hu] at fx fy
      rw [cells_one' fx] at hx
      rw [cells_one' fy] at hy
      obtain ⟨x, y, rfl, rfl⟩ : ∃ x y, xs = [x] ∧ ys = [y] := by
        obtain ⟨h1, h2⟩ := cellsEq_len hc
        obtain ⟨x, rfl⟩ := List.length_eq_one_iff.1 h1
        obtain ⟨y, rfl⟩ := List.length_eq_one_iff.1 h2
        exact ⟨x, y, rfl, rfl⟩
      replace hx := XRs_sing hx
      replace hy := XRs_sing hy
      cases x <;> cases y <;> simp only [cellsEq, Option.map_some, reduceCtorEq] at hc
      rename_i p q
      injection hc with hc
      subst hc
      simp only [XR] at hx hy
      rw [hx.1, hy.1]
      simp [Op.equalIn, run_underlying hu]
      by_cases hpq : p = q <;> simp [hpq]
    · rename_i k hu
      injection h with h; subst h
      unfold Fits at fx fy
      rw [hu] at fx fy
      rw [cells_one' fx] at hx
      rw [cells_one' fy] at hy
      obtain ⟨x, y, rfl, rfl⟩ : ∃ x y, xs = [x] ∧ ys = [y] := by
        obtain ⟨h1, h2⟩ := cellsEq_len hc
        obtain ⟨x, rfl⟩ := List.length_eq_one_iff.1 h1
        obtain ⟨y, rfl⟩ := List.length_eq_one_iff.1 h2
        exact ⟨x, y, rfl, rfl⟩
      replace hx := XRs_sing hx
      replace hy := XRs_sing hy
      cases x <;> cases y <;> simp only [cellsEq, Option.map_some, reduceCtorEq] at hc
      rename_i k1 p k2 q
      split at hc
      · rename_i hk
        subst hk
        injection hc with hc
        subst hc
        simp only [XR] at hx hy
        rw [hx.1, hy.1]
        simp [Op.equalIn, run_underlying hu]
        by_cases hpq : p = q <;> simp [hpq]
      · cases hc
    · rename_i hu
      injection h with h; subst h
      unfold Fits at fx fy
      rw [hu] at fx fy
      rw [cells_one' fx] at hx
      rw [cells_one' fy] at hy
      obtain ⟨x, y, rfl, rfl⟩ : ∃ x y, xs = [x] ∧ ys = [y] := by
        obtain ⟨h1, h2⟩ := cellsEq_len hc
        obtain ⟨x, rfl⟩ := List.length_eq_one_iff.1 h1
        obtain ⟨y, rfl⟩ := List.length_eq_one_iff.1 h2
        exact ⟨x, y, rfl, rfl⟩
      replace hx := XRs_sing hx
      replace hy := XRs_sing hy
      cases x <;> cases y <;> simp only [cellsEq, Option.map_some, reduceCtorEq] at hc
      rename_i p q
      injection hc with hc
      subst hc
      simp only [XR] at hx hy
      rw [hx.1, hy.1]
      simp [Op.equalIn, run_underlying hu, str_beq]
    · rename_i fs hu
      split at h
      · cases h
      · rename_i hst
        unfold Fits at fx fy
        rw [hu] at fx fy
        obtain ⟨cx, rfl⟩ := fx
        obtain ⟨cy, rfl⟩ := fy
        have hfo : P.fieldsOf t = fs := by simp [Program.fieldsOf, hu]
        rw [run_equalIn_struct w' D t cx cy (by rw [hfo]; exact hu) (by simpa using hst), hfo]
        exact eqFs_ok (fun t ks vx vy xs ys b => eqIn_ok d D (by omega) t ks vx vy xs ys b) fs.toList 0 ks cx cy xs ys b h (by simpa [Value.cells] using hx) (by simpa [Value.cells] using hy) hc w'
    · cases h
theorem teq_no_t : ∀ (d : Nat) (t : TypeId), (∀ ks, teq P d t = some ks → CK.t ∉ ks)
  | 0, t, ks, h => by rw [teq] at h; cases h
  | d + 1, t, ks, h => by
    rw [teq_eq] at h
    split at h <;> first | (injection h with h; subst h; simp; done) | skip
    · split at h
      · cases h
      · exact fs_no_t d (teq_no_t d) _ _ _ h
    · cases h
where
  fs_no_t (d : Nat) (ih : ∀ t ks, teq P d t = some ks → CK.t ∉ ks) : ∀ (fs : List Field) (o : Nat) (ks : List CK), teqFs (teq P d) P fs o = some ks → CK.t ∉ ks
    | [], o, ks, h => by rw [teqFs] at h; injection h with h; subst h; simp
    | f :: fs, o, ks, h => by
      rw [teqFs] at h
      split at h
      · split at h
        · rename_i k1 hk1
          split at h
          · obtain ⟨k2, hk2, rfl⟩ := Option.map_eq_some_iff.1 h
            simp only [List.mem_append, not_or]
            exact ⟨ih _ _ hk1, fs_no_t d ih _ _ _ hk2⟩
          · cases h
        · cases h
      · cases h
theorem run_guard_bool (op : BinOp) (t : TypeId) (x y : Operand) (p q : Bool) (w : World) : (eqGuard op t x y (.bool p) (.bool q)).run P w = .ok () w := by
  cases op <;> simp [eqGuard]
theorem dec_beq (p q : Bool) : (p == q) = decide (p = q) := by cases p <;> cases q <;> rfl
theorem run_eql_bool {t : TypeId} {p q : Bool} (hu : P.underlying t = some .bool) (w : World) : (binOp .eql t (.bool p) (.bool q)).run P w = .ok (.bool (decide (p = q))) w := by
  have he : (Op.equalIn 10000 t (.bool p) (.bool q)).run P w = .ok (p == q) w := run_equalIn_bool' w 9999 t p q hu
  simp only [binOp]
  simp only [Op.equal, Op.maxDepth, Sem.run_bind, he, Result.andThen_ok, Sem.run_pure, dec_beq]
theorem run_neq_bool {t : TypeId} {p q : Bool} (hu : P.underlying t = some .bool) (w : World) : (binOp .neq t (.bool p) (.bool q)).run P w = .ok (.bool (!decide (p = q))) w := by
  have he : (Op.equalIn 10000 t (.bool p) (.bool q)).run P w = .ok (p == q) w := run_equalIn_bool' w 9999 t p q hu
  simp only [binOp]
  simp only [Op.equal, Op.maxDepth, Sem.run_bind, he, Result.andThen_ok, Sem.run_pure, dec_beq]
theorem xbin_ok {O : Nat → Prop} {E : EI} {op : BinOp} {x y : AV} {k : AV → Prop} {l} {t : TypeId} {cx cy : Operand} {vx vy : Value} (h : xbin (teqP P t) op x y k l) (hx : XR w O E x vx []) (hy : XR w O E y vy []) :
    ∃ v av, Yl P (do eqGuard op t cx cy vx vy; binOp op t vx vy) v ∧ XR w O E av v [] ∧ k av := by
  unfold xbin at h
  split at h
  · rename_i xs ys
    simp only [XR] at hx hy
    obtain ⟨vs, rfl, hX⟩ := hx
    obtain ⟨us, rfl, hY⟩ := hy
    have key : ∀ {kk : Bool → Prop}, xeqA (teqP P t) xs ys kk () → ∃ b, kk b ∧ P.eqGuardType P.depth t = false ∧ ∀ w' : World, (Op.equalIn 10000 t (.agg vs) (.agg us)).run P w' = .ok b w' := by
      intro kk h
      unfold xeqA at h
      split at h
      · rename_i ks hks
        split at h
        · rename_i b hb
          unfold teqP at hks
          split at hks
          · rename_i fs hu
            split at hks
            · cases hks
            · rename_i hg
              exact ⟨b, h, by simpa using hg, eqIn_ok 9 10000 (by omega) t ks _ _ xs ys b hks (by simp [Fits, hu]) (by simp [Fits, hu]) hX hY hb⟩
          · injection hks with hks
            subst hks
            simp [cellsEq] at hb
          · cases hks
        · exact h.elim
      · exact h.elim
    split at h
    · obtain ⟨b, hk, hg, hr⟩ := key h
      exact ⟨.bool b, _, fun w => by simp only [Sem.run_bind, run_eqGuard_agg w _ t _ _ _ _ hg, Result.andThen_ok, run_eql_struct, hr], by simp [XR], hk⟩
    · obtain ⟨b, hk, hg, hr⟩ := key h
      exact ⟨.bool (!b), _, fun w => by simp only [Sem.run_bind, run_eqGuard_agg w _ t _ _ _ _ hg, Result.andThen_ok, run_neq_struct, hr], by simp [XR], hk⟩
    · exact h.elim
  · rename_i p q
    simp only [XR] at hx hy
    obtain ⟨rfl, _⟩ := hx
    obtain ⟨rfl, _⟩ := hy
    have hb : teqP P t = some [.t] → P.underlying t = some .bool := by
      intro ht
      unfold teqP at ht
      split at ht
      · rename_i fs hu
        split at ht
        · cases ht
        · rw [teq_eq, hu] at ht
          simp only at ht
          split at ht
          · cases ht
          · exact absurd (List.mem_singleton.2 rfl) (teq_no_t.fs_no_t 8 (teq_no_t 8) _ _ _ ht)
      · assumption
      · cases ht
    split at h
    · rename_i ht
      exact ⟨.bool (decide (p = q)), _, fun w => by simp only [Sem.run_bind, run_guard_bool, Result.andThen_ok, run_eql_bool (hb ht)], by simp [XR], h⟩
    · rename_i ht
      exact ⟨.bool (!decide (p = q)), _, fun w => by simp only [Sem.run_bind, run_guard_bool, Result.andThen_ok, run_neq_bool (hb ht)], by simp [XR], h⟩
    · exact h.elim
  · simp only [XR] at hx hy
    obtain ⟨rfl, _⟩ := hx
    obtain ⟨rfl, _⟩ := hy
    split at h
    · rename_i hcd
      subst hcd
      split at h <;> first
        | exact h.elim
        | exact ⟨_, _, fun w => by simp [eqGuard, binOp, Op.intArith, Op.intCmp]; rfl, by simp [XR], h⟩
        | (obtain ⟨hb, hk⟩ := h; exact ⟨_, _, fun w => by simp [eqGuard, binOp, Op.intDiv, hb]; rfl, by simp [XR], hk⟩)
    · exact h.elim
  · simp only [XR] at hx hy
    obtain ⟨rfl, _⟩ := hx
    obtain ⟨rfl, _⟩ := hy
    split at h <;> first
      | exact h.elim
      | exact ⟨_, _, fun w => by simp [eqGuard, binOp, Op.stringOp]; rfl, by simp [XR, bne], h⟩
      | (obtain ⟨hb, hk⟩ := h; exact ⟨_, _, fun w => by simp [eqGuard, binOp, Op.stringOp]; rw [if_neg (by simp [ByteArray.size]; omega), str_append], by simp [XR], hk⟩)
  · exact h.elim

theorem xun_ok {O : Nat → Prop} {E : EI} {op : UnOp} {x : AV} {k : AV → Prop} {l} {vx : Value} (h : xun op x k l) (hx : XR w O E x vx []) :
    ∃ v av, Yl P (Op.unary op vx) v ∧ XR w O E av v [] ∧ k av := by
  unfold xun at h
  split at h
  · simp only [XR] at hx
    obtain ⟨rfl, _⟩ := hx
    exact ⟨_, _, fun w => by simp [Op.unary]; rfl, by simp [XR], h⟩
  · simp only [XR] at hx
    obtain ⟨rfl, _⟩ := hx
    exact ⟨_, _, fun w => by simp [Op.unary]; rfl, by simp [XR], h⟩
  · exact h.elim

theorem xpick_ok {O : Nat → Prop} {E : EI} {c x y : AV} {k : AV → Prop} {l} {vc vx vy : Value} (h : xpick c x y k l) (hc : XR w O E c vc []) (hx : XR w O E x vx []) (hy : XR w O E y vy []) :
    ∃ v av, Yl P (do pure (if ← asBool vc then vx else vy)) v ∧ XR w O E av v [] ∧ k av := by
  unfold xpick at h
  split at h
  · simp only [XR] at hc
    obtain ⟨rfl, _⟩ := hc
    exact ⟨vx, _, fun w => by simp [asBool], hx, h⟩
  · simp only [XR] at hc
    obtain ⟨rfl, _⟩ := hc
    exact ⟨vy, _, fun w => by simp [asBool], hy, h⟩
  · exact h.elim

theorem xtup_ok {O : Nat → Prop} {E : EI} {x : AV} {i : Nat} {k : AV → Prop} {l} {vx : Value} (h : xtup x i k l) (hx : XR w O E x vx []) :
    ∃ v av, Yl P (Instr.extract vx i) v ∧ XR w O E av v [] ∧ k av := by
  unfold xtup at h
  split at h
  · rename_i cs
    simp only [XR] at hx
    obtain ⟨vs, rfl, hx⟩ := hx
    split at h
    · rename_i c hc
      obtain ⟨v, hv, hr⟩ := XRs_get hx hc
      exact ⟨v, c, fun w => by simp at hv; simp [Instr.extract, hv], hr, h⟩
    · exact h.elim
  · exact h.elim

theorem ti_sl {t : TypeId} {e m : Nat} (h : ti P t = .sl e m) : P.underlying t = some (.slice e) ∧ tz P e = some m := by
  unfold ti at h
  split at h
  · split at h
    · injection h with h1 h2; subst h1 h2; exact ⟨by assumption, by assumption⟩
    · cases h
  · split at h <;> cases h
  · cases h
  · cases h
  · cases h
theorem ti_arr {t : TypeId} {l e m : Nat} (h : ti P t = .arr l e m) : P.underlying t = some (.array l e) ∧ tz P e = some m := by
  unfold ti at h
  split at h
  · split at h <;> cases h
  · split at h
    · injection h with h0 h1 h2; subst h0 h1 h2; exact ⟨by assumption, by assumption⟩
    · cases h
  · cases h
  · cases h
  · cases h
theorem ti_str {t : TypeId} (h : ti P t = .str) : P.underlying t = some .string := by
  unfold ti at h
  split at h
  · split at h <;> cases h
  · split at h <;> cases h
  · assumption
  · cases h
  · cases h
theorem ti_int {t : TypeId} {k : IntKind} (h : ti P t = .int k) : P.underlying t = some (.int k) := by
  unfold ti at h
  split at h
  · split at h <;> cases h
  · split at h <;> cases h
  · cases h
  · injection h with h; subst h; assumption
  · cases h
theorem run_under {t : TypeId} {d : TypeDesc} (h : P.underlying t = some d) (w : World) : (underlying t).run P w = .ok d w := by simp [underlying, h]
theorem run_sizeOf {t : TypeId} {m : Nat} (h : tz P t = some m) (w : World) : (sizeOf t).run P w = .ok m w := by
  unfold tz at h
  cases hi : P.info? t with
  | none => rw [hi] at h; cases h
  | some i => rw [hi] at h; simp at h; simp [sizeOf, typeInfo, hi, h]

theorem Sim.mem [Wd] (hS : Sim n Y w0 F0 ρ f K a w) {j : Nat} {e : Ent} (hj : kg K j = some e) (hr : e.rows ≠ []) :
    ∃ b, (ρ j).1 = some b ∧ Whole w b (e.rows.length * e.n) ∧ RR w (OO K ρ Y) (e.E (EK K ρ)) e.n b 0 e.rows (ρ j).2 ∧ (e.isBox = true → (ρ j).2 = []) := by
  have h := hS.sees.reg j e hj
  unfold Reg at h
  cases hb : (ρ j).1 with
  | none => rw [hb] at h; exact absurd h.1 hr
  | some b => rw [hb] at h; exact ⟨b, rfl, h⟩
theorem XR_sl_at [Wd] (hS : Sim n Y w0 F0 ρ f K a w) {j : Nat} {e : Ent} {v : Value} (hj : kg K j = some e) (h : XR w (OO K ρ Y) (EK K ρ) (.sl j) v []) :
    ∃ ad cap, v = .slice ad e.rows.length cap ∧ e.rows.length ≤ cap ∧ (((ρ j).1 = none ∧ cap = 0 ∧ e.rows = []) ∨ ∃ b, (ρ j).1 = some b ∧ ad = some ⟨b, 0, none⟩ ∧ Whole w b (cap * e.n)) := by
  simp only [XR] at h
  cases hb : (ρ j).1 with
  | none =>
    have hr := hS.sees.reg j e hj
    rw [hb] at hr
    obtain ⟨q, hv⟩ := h.2.2.1 e.n e.rows.length (by simp [EK, hj, hb])
    have h0 : e.rows = [] := hr.1
    exact ⟨q, 0, by rw [hv, h0]; rfl, by rw [h0]; exact Nat.le_refl _, .inl ⟨rfl, rfl, h0⟩⟩
  | some b =>
    obtain ⟨cap, h1, h2, h3⟩ := h.2.2.2 b e.n e.rows.length (by simp [EK, hj, hb])
    exact ⟨_, cap, h1, h2, .inr ⟨b, rfl, rfl, h3⟩⟩
theorem XR_ptr_at [Wd] (hS : Sim n Y w0 F0 ρ f K a w) {j i o : Nat} {e : Ent} {v : Value} (hj : kg K j = some e) (h : XR w (OO K ρ Y) (EK K ρ) (.ptr j i o) v []) :
    ∃ b, (ρ j).1 = some b ∧ v = .pointer (some ⟨b, i * e.n + o, none⟩) := by
  simp only [XR] at h
  cases hb : (ρ j).1 with
  | none => exact (h.2.2.1 e.n e.rows.length (by simp [EK, hj, hb])).elim
  | some b => exact ⟨b, rfl, h.2.2.2 b e.n e.rows.length (by simp [EK, hj, hb])⟩
theorem XR_ptr_mk {E : EI} {O : Nat → Prop} {j i o bl : Nat} {e : Ent} (hj : kg K j = some e) (hb : (ρ j).1 = some bl) (hlt : j < K.length) : XR w O (EK K ρ) (.ptr j i o) (.pointer (some ⟨bl, i * e.n + o, none⟩)) [] := by
  simp only [XR]
  refine ⟨trivial, hlt, fun n len h => ?_, fun b n len h => ?_⟩
  · simp [EK, hj, hb] at h
  · simp [EK, hj, hb] at h
    obtain ⟨rfl, rfl, rfl⟩ := h
    rfl
theorem str_size (x : List UInt8) : (⟨x.toArray⟩ : ByteArray).size = x.length := by simp [ByteArray.size]

theorem xlen_ok [Wd] (hS : Sim n Y w0 F0 ρ f K a w) {x : AV} {k : AV → Prop} {l} {vx : Value} {T : Array TypeId} {t ty : TypeId} (hT : T[0]? = some t)
    (h : xlen K (ti P t) x k l) (hx : XR w (OO K ρ Y) (EK K ρ) x vx []) :
    ∃ v av, Yl P (Builtin.len_ T ty #[vx]) v ∧ XR w (OO K ρ Y) (EK K ρ) av v [] ∧ k av := by
  unfold xlen at h
  split at h
  · rename_i e m ht
    have hu := (ti_sl ht).1
    simp only [XR] at hx
    obtain ⟨⟨q, rfl⟩, _⟩ := hx
    exact ⟨_, _, fun w => by simp [Builtin.len_, hT, underlying, hu, goInt]; rfl, by simp [XR], h⟩
  · rename_i e m nn rows ht
    have hu := (ti_sl ht).1
    simp only [XR] at hx
    obtain ⟨_, a, cap, rfl, _, _⟩ := hx
    exact ⟨_, _, fun w => by simp [Builtin.len_, hT, underlying, hu, goInt]; rfl, by simp [XR], h⟩
  · rename_i e m j ht
    have hu := (ti_sl ht).1
    split at h
    · rename_i e he
      obtain ⟨ad, cap, rfl, _, _⟩ := XR_sl_at hS he hx
      exact ⟨_, _, fun w => by simp [Builtin.len_, hT, underlying, hu, goInt]; rfl, by simp [XR], h⟩
    · exact h.elim
  · rename_i x ht
    have hu := ti_str ht
    simp only [XR] at hx
    obtain ⟨rfl, _⟩ := hx
    exact ⟨_, _, fun w => by simp [Builtin.len_, hT, underlying, hu, goInt, -ByteArray.size_data, str_size]; rfl, by simp [XR], h⟩
  · rename_i l e m ht
    have hu := (ti_arr ht).1
    exact ⟨_, _, fun w => by simp [Builtin.len_, hT, underlying, hu, goInt]; rfl, by simp [XR], h⟩
  · exact h.elim

theorem add_none (b o k : Nat) : (⟨b, o, none⟩ : Addr).add k = ⟨b, o + k, none⟩ := by
  unfold Addr.add; split
  · rename_i h; subst h; rfl
  · rfl

theorem xidx_ok [Wd] (hS : Sim n Y w0 F0 ρ f K a w) {x i : AV} {k : AV → Prop} {l} {vx vi : Value} {t : TypeId}
    (h : xidx K (ti P t) x i k l) (hx : XR w (OO K ρ Y) (EK K ρ) x vx []) (hi : XR w (OO K ρ Y) (EK K ρ) i vi []) :
    ∃ v av, Yl P (Instr.indexAt t vx vi) v ∧ XR w (OO K ρ Y) (EK K ρ) av v [] ∧ k av := by
  unfold xidx at h
  split at h
  · rename_i e m nn rows c i ht
    obtain ⟨hu, hz⟩ := ti_sl ht
    simp only [XR] at hi
    obtain ⟨rfl, _⟩ := hi
    split at h
    · rename_i hm
      subst hm
      obtain ⟨⟨h0, h1⟩, hk⟩ := h
      simp only [XR] at hx
      obtain ⟨_, ad, cap, rfl, hc, hr⟩ := hx
      rcases hr with rfl | ⟨bl, off, rfl, hO, hb, hR⟩
      · simp at h1; omega
      · refine ⟨.pointer (some ⟨bl, off + i.toNat * m, none⟩), _, fun w => ?_, ?_, hk⟩
        · simp [Instr.indexAt, asIntOf, run_under hu, run_sizeOf hz, h0, h1, add_none]
        · simp only [XR, true_and, Nat.add_zero]
          exact ⟨bl, off, rfl, hO, hb, hR⟩
    · exact h.elim
  · rename_i e m j c i ht
    obtain ⟨hu, hz⟩ := ti_sl ht
    simp only [XR] at hi
    obtain ⟨rfl, _⟩ := hi
    split at h
    · rename_i e he
      split at h
      · rename_i hm
        subst hm
        obtain ⟨⟨h0, h1⟩, hk⟩ := h
        have hx' := hx
        obtain ⟨ad, cap, rfl, hc, hw⟩ := XR_sl_at hS he hx
        simp only [XR] at hx'
        rcases hw with ⟨_, _, h0'⟩ | ⟨b, hb, rfl, hw⟩
        · rw [h0'] at h1; simp at h1; omega
        refine ⟨.pointer (some ⟨b, i.toNat * e.n, none⟩), _, fun w => ?_, ?_, hk⟩
        · simp [Instr.indexAt, asIntOf, run_under hu, run_sizeOf hz, h0, h1, add_none]
        · exact XR_ptr_mk (E := EN) (o := 0) he hb hx'.2.1
      · exact h.elim
    · exact h.elim
  · rename_i len e m j r o c i ht
    obtain ⟨hu, hz⟩ := ti_arr ht
    simp only [XR] at hi
    obtain ⟨rfl, _⟩ := hi
    split at h
    · rename_i e' he
      obtain ⟨⟨h0, h1⟩, hk⟩ := h
      obtain ⟨b, hb, hv⟩ := XR_ptr_at hS he hx
      subst hv
      have hx' := hx
      simp only [XR] at hx'
      refine ⟨.pointer (some ⟨b, r * e'.n + (o + i.toNat * m), none⟩), _, fun w => ?_, ?_, hk⟩
      · simp [Instr.indexAt, Instr.sureAddr, asIntOf, run_under hu, run_sizeOf hz, h0, h1, add_none, Nat.add_assoc]
      · exact XR_ptr_mk (E := EN) he hb hx'.2.1
    · exact h.elim
  · exact h.elim

theorem RR_drop {O : Nat → Prop} {E : EI} {m : Nat} : ∀ (i : Nat) {rs : List (List AV)} {bl off : Nat}, i ≤ rs.length → RR w O E m bl off rs [] → RR w O E m bl (off + i * m) (rs.drop i) []
  | 0, rs, bl, off, _, h => by simpa using h
  | i + 1, [], bl, off, hl, h => by simp at hl
  | i + 1, r :: rs, bl, off, hl, h => by
    simp only [RR] at h
    obtain ⟨n1, n2, h1, h2, h3, h4⟩ := h
    obtain ⟨rfl, rfl⟩ := List.append_eq_nil_iff.1 h1.symm
    have := RR_drop i (by simpa using hl) h4
    rw [List.drop_succ_cons, Nat.succ_mul, Nat.add_comm (i * m) m, ← Nat.add_assoc]
    exact this
theorem RR_take {O : Nat → Prop} {E : EI} {m : Nat} : ∀ (i : Nat) {rs : List (List AV)} {bl off : Nat}, RR w O E m bl off rs [] → RR w O E m bl off (rs.take i) []
  | 0, rs, bl, off, h => by simp [RR]
  | i + 1, [], bl, off, h => by simp [RR]
  | i + 1, r :: rs, bl, off, h => by
    simp only [RR] at h
    obtain ⟨n1, n2, h1, h2, h3, h4⟩ := h
    obtain ⟨rfl, rfl⟩ := List.append_eq_nil_iff.1 h1.symm
    simp only [List.take_succ_cons, RR]
    exact ⟨[], [], rfl, h2, h3, RR_take i h4⟩
theorem bd_at [Wd] (hS : Sim n Y w0 F0 ρ f K a w) {d l : Int} {lo : Option Operand} (h : bd d (lo.map (Am.ev f)) = some l) : (lo = none ∧ l = d) ∨ ∃ o c, lo = some o ∧ a.eval o = .int c l := by
  cases lo with
  | none => simp [bd] at h; exact .inl ⟨rfl, h.symm⟩
  | some o =>
    refine .inr ⟨o, ?_⟩
    have hx := hS.ev o
    simp only [Option.map_some] at h
    unfold bd at h
    split at h
    · rename_i heq; cases heq
    · rename_i c i heq
      injection heq with heq
      injection h with h
      subst h
      rw [heq] at hx
      simp only [XR] at hx
      exact ⟨c, rfl, hx.1⟩
    · cases h
theorem run_bounds [Wd] (hS : Sim n Y w0 F0 ρ f K a w) {isS : Bool} {len cap : Nat} {lo hi : Option Operand} {l h : Int} (h1 : bd 0 (lo.map (Am.ev f)) = some l) (h2 : bd len (hi.map (Am.ev f)) = some h) (h0 : 0 ≤ l ∧ l ≤ h ∧ h ≤ len) (hc : len ≤ cap) (w' : World) :
    (Instr.sliceBounds isS len cap (lo.map a.eval) (hi.map a.eval) none).run P w' = .ok (l.toNat, h.toNat, cap) w' := by
  have bound : ∀ (c : IntKind) (i : Int) (y : Nat) (code : BoundsCode), 0 ≤ i → i ≤ y → (Instr.sliceBound (.int c i) y code).run P w' = .ok i.toNat w' := fun c i y code q1 q2 => by simp [Instr.sliceBound, asIntOf, q1, q2]
  have e0 : (h.toNat : Int) = h := by omega
  rcases bd_at hS h1 with ⟨rfl, rfl⟩ | ⟨o1, c1, rfl, e1⟩ <;> rcases bd_at hS h2 with ⟨rfl, rfl⟩ | ⟨o2, c2, rfl, e2⟩
  · simp [Instr.sliceBounds]
  · simp only [Instr.sliceBounds, Option.map_some, Option.map_none, e2, Sem.run_bind, Sem.run_pure, Result.andThen_ok]
    rw [bound _ _ _ _ (by omega) (by omega)]; simp
  · simp only [Instr.sliceBounds, Option.map_some, Option.map_none, e1, Sem.run_bind, Sem.run_pure, Result.andThen_ok]
    rw [bound _ _ _ _ (by omega) (by omega)]; simp
  · simp only [Instr.sliceBounds, Option.map_some, Option.map_none, e1, e2, Sem.run_bind, Sem.run_pure, Result.andThen_ok]
    rw [bound _ _ _ _ (by omega) (by omega), Result.andThen_ok, bound _ _ _ _ (by omega) (by omega)]; simp
theorem str_extract (x : List UInt8) (l h : Nat) : (⟨x.toArray⟩ : ByteArray).extract l h = ⟨((x.take h).drop l).toArray⟩ := by
  ext1
  simp only [ByteArray.data_extract]
  apply Array.toList_inj.1
  simp [List.drop_take]
theorem str_get (x : List UInt8) (i : Nat) (h : i < x.length) : (⟨x.toArray⟩ : ByteArray)[i]? = some (x.getD i default) := by
  have : i < (⟨x.toArray⟩ : ByteArray).size := by rw [str_size]; exact h
  rw [getElem?_pos (⟨x.toArray⟩ : ByteArray) i this]
  simp only [List.getD_eq_getElem?_getD, List.getElem?_eq_getElem h, Option.getD_some]
  rfl
theorem xslc_ok [Wd] (hS : Sim n Y w0 F0 ρ f K a w) {x : AV} {k : AV → Prop} {l} {vx : Value} {t : TypeId} {lo hi : Option Operand}
    (h : xslc (ti P t) x (lo.map (Am.ev f)) (hi.map (Am.ev f)) k l) (hx : XR w (OO K ρ Y) (EK K ρ) x vx []) :
    ∃ v av, Yl P (Instr.sliceAt t vx (lo.map a.eval) (hi.map a.eval) none) v ∧ XR w (OO K ρ Y) (EK K ρ) av v [] ∧ k av := by
  unfold xslc at h
  split at h
  · rename_i e m nn rows ht
    obtain ⟨hu, hz⟩ := ti_sl ht
    split at h
    · rename_i hm
      subst hm
      split at h
      · rename_i lv hv h1 h2
        obtain ⟨h0, hk⟩ := h
        simp only [XR] at hx
        obtain ⟨_, ad, cap, rfl, hc, hr⟩ := hx
        have hb := run_bounds (P := P) (isS := true) hS h1 h2 h0 hc
        refine ⟨.slice (if cap = lv.toNat then ad else ad.map (·.add (lv.toNat * m))) (hv.toNat - lv.toNat) (cap - lv.toNat), _, fun w => ?_, ?_, hk⟩
        · simp [Instr.sliceAt, Instr.slice, run_under hu, hb, run_sizeOf hz]
        · have hlen : ((rows.take hv.toNat).drop lv.toNat).length = hv.toNat - lv.toNat := by simp; omega
          simp only [XR, true_and]
          rw [hlen]
          refine ⟨_, _, rfl, by omega, ?_⟩
          by_cases hlt : lv.toNat = hv.toNat
          · exact .inl (List.length_eq_zero_iff.1 (by rw [hlen]; omega))
          · rcases hr with rfl | ⟨bl, off, rfl, hO, hbl, hR⟩
            · simp at h0; omega
            · refine .inr ⟨bl, off + lv.toNat * m, ?_, hO, hbl, ?_⟩
              · rw [if_neg (by omega)]; simp [add_none]
              · exact RR_drop _ (by simp; omega) (RR_take _ hR)
      · exact h.elim
    · exact h.elim
  · rename_i x ht
    have hu := ti_str ht
    split at h
    · rename_i lv hv h1 h2
      obtain ⟨h0, hk⟩ := h
      simp only [XR] at hx
      obtain ⟨rfl, _⟩ := hx
      have hb := run_bounds (P := P) (isS := false) hS h1 h2 h0 (Nat.le_refl _)
      refine ⟨.string ⟨((x.take hv.toNat).drop lv.toNat).toArray⟩, _, fun w => ?_, by simp [XR], hk⟩
      simp [Instr.sliceAt, Instr.slice, run_under hu, -ByteArray.size_data, str_size, hb, str_extract]
    · exact h.elim
  · exact h.elim
theorem xsix_ok {O : Nat → Prop} {E : EI} {x i : AV} {k : AV → Prop} {l} {vx vi : Value} {t : TypeId} (h : xsix (ti P t) x i k l) (hx : XR w O E x vx []) (hi : XR w O E i vi []) :
    ∃ v av, Yl P (Instr.index t vx vi) v ∧ XR w O E av v [] ∧ k av := by
  unfold xsix at h
  split at h
  · rename_i x c i ht
    have hu := ti_str ht
    obtain ⟨h0, hk⟩ := h
    simp only [XR] at hx hi
    obtain ⟨rfl, _⟩ := hx
    obtain ⟨rfl, _⟩ := hi
    have h1 : i.toNat < x.length := by omega
    refine ⟨.int .u8 ((x.getD i.toNat default).toNat : Int), _, fun w => ?_, by simp [XR], hk⟩
    simp only [Instr.index, asIntOf, run_under hu, h0.1, if_true, Sem.run_bind, Sem.run_pure, Result.andThen_ok, str_get x _ h1]
  · exact h.elim
theorem tfo_at {t : TypeId} {i o : Nat} {k : TK} (h : tfo P t i = some (o, k)) : ∃ fs fd m, P.underlying t = some (.struct fs) ∧ fs[i]? = some fd ∧ tz P fd.type = some (m + 1) ∧ fd.offset = o ∧ k = tk P fd.type := by
  unfold tfo at h
  split at h
  · rename_i fs hu
    split at h
    · rename_i fd hf
      split at h
      · rename_i m hz
        injection h with h; injection h with h1 h2
        exact ⟨fs, fd, m, hu, hf, hz, h1, h2.symm⟩
      · cases h
    · cases h
  · cases h
theorem tk_agg {t : TypeId} {m : Nat} (h : tk P t = .agg m) : tz P t = some m ∧ ∃ d, P.underlying t = some d ∧ isAggD d = true := by
  unfold tk at h
  split at h
  · rename_i d hu
    split at h
    · rename_i hd
      split at h
      · injection h with h; subst h; exact ⟨by assumption, d, hu, hd⟩
      · cases h
    · split at h <;> cases h
  · cases h
theorem tk_one {t : TypeId} (h : tk P t = .one) : tz P t = some 1 ∧ ∃ d, P.underlying t = some d ∧ isAggD d = false := by
  unfold tk at h
  split at h
  · rename_i d hu
    split at h
    · split at h <;> cases h
    · rename_i hd
      split at h
      · exact ⟨by assumption, d, hu, by simpa using hd⟩
      · cases h
  · cases h
theorem run_isAgg {t : TypeId} {d : TypeDesc} (hu : P.underlying t = some d) (w : World) : (isAgg t).run P w = .ok (isAggD d) w := by
  simp only [isAgg, Sem.run_bind, run_under hu, Result.andThen_ok]
  cases d <;> rfl

theorem xadd_ok [Wd] (hS : Sim n Y w0 F0 ρ f K a w) {x : AV} {k : AV → Prop} {l} {vx : Value} {t : TypeId} {i : Nat}
    (h : xadd K x (tfo P t i) k l) (hx : XR w (OO K ρ Y) (EK K ρ) x vx []) :
    ∃ v av, Yl P (Instr.fieldAt t vx i) v ∧ XR w (OO K ρ Y) (EK K ρ) av v [] ∧ k av := by
  unfold xadd at h
  split at h
  · rename_i j r p o kk ho
    obtain ⟨fs, fd, m, hu, hf, hm, rfl, _⟩ := tfo_at ho
    split at h
    · rename_i e he
      obtain ⟨b, hb, hv⟩ := XR_ptr_at hS he hx
      subst hv
      have hx' := hx
      simp only [XR] at hx'
      refine ⟨.pointer (some ⟨b, r * e.n + (p + fd.offset), none⟩), _, fun w => ?_, ?_, h⟩
      · simp [Instr.fieldAt, Instr.sureAddr, run_under hu, hf, fieldPlace, run_sizeOf hm, add_none, Nat.add_assoc]
      · exact XR_ptr_mk (E := EN) he hb hx'.2.1
    · exact h.elim
  · rename_i nn rows r p o kk ho
    obtain ⟨fs, fd, m, hu, hf, hm, rfl, _⟩ := tfo_at ho
    simp only [XR] at hx
    obtain ⟨_, bl, off, rfl, hO, hb, hR⟩ := hx
    refine ⟨.pointer (some ⟨bl, off + (r * nn + (p + fd.offset)), none⟩), _, fun w => ?_, ?_, h⟩
    · simp [Instr.fieldAt, Instr.sureAddr, run_under hu, hf, fieldPlace, run_sizeOf hm, add_none, Nat.add_assoc]
    · simp only [XR, true_and]
      exact ⟨bl, off, rfl, hO, hb, hR⟩
  · exact h.elim

/-! ### reading -/
theorem CR_vals {O : Nat → Prop} {E : EI} : ∀ {cs : List AV} {bl o : Nat} {nb : List Nat}, CR w O E bl o cs nb →
    ∃ vs : List Value, vs.length = cs.length ∧ (∀ i, i < cs.length → w.cell? ⟨bl, o + i, none⟩ = vs[i]?) ∧ XRs w O E cs vs nb ∧ ∀ v ∈ vs, oneCell v = true
  | [], bl, o, nb, h => ⟨[], rfl, fun i hi => by simp at hi, by simp only [CR] at h; simp [XRs, h], by simp⟩
  | c :: cs, bl, o, nb, h => by
    simp only [CR] at h
    obtain ⟨v, n1, n2, h1, rfl, h3, h4⟩ := h
    obtain ⟨vs, hl, hv, hx, hone⟩ := CR_vals h4
    refine ⟨v :: vs, by simp [hl], fun i hi => ?_, by simp only [XRs]; exact ⟨v, vs, n1, n2, rfl, rfl, h3, hx⟩, fun u hu => by rcases List.mem_cons.1 hu with rfl | hu; exact h1.2; exact hone u hu⟩
    cases i with
    | zero => simpa using h1.1
    | succ i =>
      have := hv i (by simpa using hi)
      simpa [Nat.add_assoc, Nat.add_comm 1 i] using this
theorem XR_ld {O : Nat → Prop} {E : EI} {c : AV} {v : Value} {nb : List Nat} (h : XR w O EN c v nb) : XR w O E (ld c) v [] := by
  cases c <;> simp [ld, AV.closed, XR] at h ⊢ <;> first | exact h.1 | exact h.2 | trivial
theorem XRs_ld {O : Nat → Prop} {E : EI} : ∀ {cs : List AV} {vs : List Value} {nb : List Nat}, XRs w O EN cs vs nb → XRs w O E (cs.map ld) vs []
  | [], vs, nb, h => by simp only [XRs] at h; simp [XRs, h.1]
  | c :: cs, vs, nb, h => by
    simp only [XRs] at h
    obtain ⟨v, vs', n1, n2, rfl, rfl, h3, h4⟩ := h
    simp only [List.map_cons, XRs]
    exact ⟨v, vs', [], [], rfl, rfl, XR_ld h3, XRs_ld h4⟩
theorem RR_row {O : Nat → Prop} {E : EI} {n : Nat} : ∀ {rs : List (List AV)} {bl off : Nat} {nb : List Nat} {i : Nat}, RR w O E n bl off rs nb → i < rs.length →
    ∃ nb', (rowOf rs i).length = n ∧ CR w O E bl (off + i * n) (rowOf rs i) nb' ∧ ∀ b ∈ nb', b ∈ nb
  | [], _, _, _, _, _, hi => by simp at hi
  | r :: rs, bl, off, nb, i, h, hi => by
    simp only [RR] at h
    obtain ⟨n1, n2, rfl, hr, h3, h4⟩ := h
    cases i with
    | zero => exact ⟨n1, by simpa [rowOf] using hr, by simpa [rowOf] using h3, fun b hb => by simp [hb]⟩
    | succ i =>
      obtain ⟨nb', h5, h6, h7⟩ := RR_row h4 (by simpa using hi : i < rs.length)
      refine ⟨nb', by simpa [rowOf] using h5, ?_, fun b hb => by simp [h7 b hb]⟩
      have e : off + n + i * n = off + (i + 1) * n := by rw [Nat.succ_mul]; omega
      rw [e] at h6
      simpa [rowOf] using h6

/-- A pointer's cells: where it points, and what stands there. -/
theorem cellsAt_ok [Wd] (hS : Sim n Y w0 F0 ρ f K a w) {p : AV} {vp : Value} (hx : XR w (OO K ρ Y) (EK K ρ) p vp []) (hne : cellsAt K p ≠ []) :
    ∃ bl o, ∃ vs : List Value, vp = .pointer (some ⟨bl, o, none⟩) ∧ bl < w.heap.size ∧ vs.length = (cellsAt K p).length ∧ (∀ i, i < vs.length → w.cell? ⟨bl, o + i, none⟩ = vs[i]?) ∧ XRs w (OO K ρ Y) (EK K ρ) (cellsAt K p) vs [] := by
  unfold cellsAt at hne ⊢
  split at hne
  · rename_i j i o
    split at hne
    · rename_i cs hj
      split at hne
      · rename_i hi
        subst hi
        obtain ⟨bl, hbl, hv⟩ := XR_ptr_at hS hj hx
        obtain ⟨bl', hbl', hW, hR, hb⟩ := hS.mem hj (by simp [Ent.rows])
        obtain rfl : bl = bl' := by rw [hbl] at hbl'; injection hbl'
        have hb := hb rfl
        simp only [Ent.rows, Ent.n, Ent.E, RR] at hR
        obtain ⟨n1, n2, h1, _, hC, rfl⟩ := hR
        rw [hb] at h1
        obtain ⟨rfl, _⟩ := List.append_eq_nil_iff.1 h1.symm
        obtain ⟨vs, hl, hc, hX, _⟩ := CR_vals hC
        refine ⟨bl, o, vs.drop o, ?_, hW.lt, ?_, ?_, ?_⟩
        · rw [hv]; simp
        · simp [hj, hl]
        · intro i hi
          rw [List.length_drop] at hi
          have := hc (o + i) (by omega)
          rw [List.getElem?_drop, ← this]; simp
        · simpa [hj] using XRs_drop o hX
      · exact absurd rfl hne
    · rename_i m rows hj
      have hi : i < rows.length := by
        rcases Nat.lt_or_ge i rows.length with h | h
        · exact h
        · simp [rowOf, List.getD, List.getElem?_eq_none h] at hne
      obtain ⟨bl, hbl, hv⟩ := XR_ptr_at hS hj hx
      obtain ⟨bl', hbl', hW, hR, hb⟩ := hS.mem hj (by simp only [Ent.rows]; rintro rfl; simp at hi)
      obtain rfl : bl = bl' := by rw [hbl] at hbl'; injection hbl'
      simp only [Ent.rows, Ent.n, Ent.E] at hR hv
      obtain ⟨nb', h5, h6, h7⟩ := RR_row hR hi
      obtain ⟨vs, hl, hc, hX, _⟩ := CR_vals h6
      refine ⟨bl, i * m + o, vs.drop o, hv, hW.lt, ?_, ?_, ?_⟩
      · simp [hj, hl]
      · intro q hq
        rw [List.length_drop] at hq
        have := hc (o + q) (by omega)
        rw [List.getElem?_drop, ← this]; simp [Nat.add_assoc]
      · have := XRs_drop o (XRs_ld (E := EK K ρ) hX)
        simpa [hj, List.map_drop] using this
    · exact absurd rfl hne
  · rename_i m rows i o
    simp only [XR] at hx
    obtain ⟨_, bl, off, rfl, hO, hb, hR⟩ := hx
    have hi : i < rows.length := by
      rcases Nat.lt_or_ge i rows.length with h | h
      · exact h
      · simp [rowOf, List.getD, List.getElem?_eq_none h] at hne
    obtain ⟨nb', h5, h6, h7⟩ := RR_row hR hi
    obtain ⟨vs, hl, hc, hX, _⟩ := CR_vals h6
    refine ⟨bl, off + (i * m + o), vs.drop o, rfl, hb, ?_, ?_, ?_⟩
    · simp [hl]
    · intro q hq
      rw [List.length_drop] at hq
      have := hc (o + q) (by omega)
      rw [List.getElem?_drop, ← this]; simp [Nat.add_assoc]
    · have := XRs_drop o (XRs_ld (E := EK K ρ) hX)
      simpa [List.map_drop] using this
  · exact absurd rfl hne

theorem loadCellsFrom_run (bl o : Nat) : ∀ (m j : Nat) (acc : Array Value) (vs : List Value), vs.length = m → (∀ i, i < m → w.cell? ⟨bl, o + (j + i), none⟩ = vs[i]?) →
    (loadCellsFrom ⟨bl, o, none⟩ j m acc).run P w = .ok (acc ++ vs.toArray) w
  | 0, j, acc, vs, hl, h => by
    have : vs = [] := List.length_eq_zero_iff.1 hl
    subst this; simp [loadCellsFrom]
  | m + 1, j, acc, vs, hl, h => by
    cases vs with
    | nil => simp at hl
    | cons v vs =>
      have h0 := h 0 (by omega)
      simp only [Nat.add_zero, List.getElem?_cons_zero] at h0
      simp only [loadCellsFrom, Sem.run_bind, run_load, add_none, h0, Result.andThen_ok]
      rw [loadCellsFrom_run bl o m (j + 1) (acc.push v) vs (by simpa using hl) (fun i hi => by
        have := h (i + 1) (by omega)
        simpa [Nat.add_assoc, Nat.add_comm 1 i] using this)]
      simp

theorem xload_ok [Wd] (hS : Sim n Y w0 F0 ρ f K a w) {p : AV} {k : AV → Prop} {l} {vp : Value} {t : TypeId}
    (h : xload (tk P t) (cellsAt K p) k l) (hx : XR w (OO K ρ Y) (EK K ρ) p vp []) :
    ∃ v av, (Instr.loadAt t vp).run P w = .ok v w ∧ XR w (OO K ρ Y) (EK K ρ) av v [] ∧ k av := by
  unfold xload at h
  split at h
  · rename_i ht
    obtain ⟨hz, d, hu, hd⟩ := tk_one ht
    split at h
    · rename_i c cs hc
      obtain ⟨bl, o, vs, rfl, hb, hl, hv, hX⟩ := cellsAt_ok hS hx (by rw [hc]; simp)
      rw [hc] at hl hX
      simp only [XRs] at hX
      obtain ⟨v, vs', n1, n2, rfl, h2, h3, h4⟩ := hX
      obtain ⟨rfl, rfl⟩ := List.append_eq_nil_iff.1 h2.symm
      have h0 := hv 0 (by simp)
      simp only [Nat.add_zero, List.getElem?_cons_zero] at h0
      refine ⟨v, c, ?_, h3, h⟩
      simp [Instr.loadAt, Instr.sureAddr, loadVar, run_isAgg hu, hd, h0]
    · exact h.elim
  · rename_i m ht
    obtain ⟨hz, d, hu, hd⟩ := tk_agg ht
    split at h
    · rename_i hm
      obtain ⟨h0m, hm⟩ := hm
      have hm0 : cellsAt K p ≠ [] := fun e => by rw [e] at hm; simp at hm; omega
      · obtain ⟨bl, o, vs, rfl, hb, hl, hv, hX⟩ := cellsAt_ok hS hx hm0
        refine ⟨.agg (vs.take m).toArray, _, ?_, ?_, h⟩
        · simp only [Instr.loadAt, Instr.sureAddr, loadVar, Sem.run_bind, Sem.run_pure, Result.andThen_ok, run_isAgg hu, hd, if_true, run_sizeOf hz, loadCells]
          rw [loadCellsFrom_run bl o m 0 #[] (vs.take m) (by simp; omega) (fun i hi => by
            have := hv i (by omega)
            rw [Nat.zero_add, this, List.getElem?_take, if_pos hi])]
          simp
        · simp only [XR]
          exact ⟨_, rfl, by simpa using XRs_take m hX⟩
    · exact h.elim
  · exact h.elim

theorem xpart_ok {O : Nat → Prop} {E : EI} {x : AV} {o : Nat} {k : AV → Prop} {l} {cs : Array Value} {t : TypeId}
    (h : xpart (tk P t) o x k l) (hx : XR w O E x (.agg cs) []) :
    ∃ v av, Yl P (part t cs o) v ∧ XR w O E av v [] ∧ k av := by
  unfold xpart at h
  split at h
  · rename_i as
    simp only [XR] at hx
    obtain ⟨vs, h1, hx⟩ := hx
    injection h1 with h1
    subst h1
    have hd := XRs_drop o hx
    unfold xload at h
    split at h
    · rename_i ht
      obtain ⟨hz, d, hu, hdd⟩ := tk_one ht
      split at h
      · rename_i c r hc
        rw [hc] at hd
        simp only [XRs] at hd
        obtain ⟨v, vs', n1, n2, h1, h2, h3, h4⟩ := hd
        obtain ⟨rfl, rfl⟩ := List.append_eq_nil_iff.1 h2.symm
        have h0 : cs[o]? = some v := by
          have := congrArg (fun l => l[0]?) h1
          simpa using this
        refine ⟨v, c, fun w => ?_, h3, h⟩
        simp [part, run_isAgg hu, hdd, h0]
      · exact h.elim
    · rename_i m ht
      obtain ⟨hz, d, hu, hdd⟩ := tk_agg ht
      split at h
      · rename_i hm
        refine ⟨.agg (cs.extract o (o + m)), _, fun w => ?_, ?_, h⟩
        · simp [part, run_isAgg hu, hdd, run_sizeOf hz]
        · simp only [XR]
          refine ⟨_, rfl, ?_⟩
          have := XRs_take m hd
          simpa [List.extract_eq_take_drop, List.take_drop] using this
      · exact h.elim
    · exact h.elim
  · exact h.elim
end
end Go.Proofs.Ytcpelionmmnogaa.Am
