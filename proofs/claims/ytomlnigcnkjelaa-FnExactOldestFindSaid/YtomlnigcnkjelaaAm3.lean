/- An abstract machine for the walks: its steps on values alone are right. No condition. -/
import Derived.Test.YtomlnigcnkjelaaAm2
import Derived.Laws.Sem
import Derived.Laws.Strings
namespace Go.Proofs.Ytomlnigcnkjelaa.Am
open Go
set_option linter.unusedVariables false
set_option linter.unusedSimpArgs false

theorem cv_ok (w : World) (O : Nat → Prop) (E : EI) (v : Value) : XR w O E (cv v) v [] := by
  unfold cv
  split <;> simp [XR]

theorem str_append (a b : List UInt8) : (⟨a.toArray⟩ : ByteArray) ++ ⟨b.toArray⟩ = ⟨(a ++ b).toArray⟩ := by
  ext1; simp

section
variable {P : Program} {n : NE} {Y : Nat → Prop} {w0 : World} {F0 : Nat → Prop} {ρ : RHO} {f : Fr} {K : KS} {a : Act} {w : World}

theorem Sim.ev (h : Sim n Y w0 F0 ρ f K a w) (x : Operand) : XR w (OO K ρ Y) (EK K ρ) (ev f x) (a.eval x) [] := by
  cases x with
  | tmp t => exact h.fr t
  | const v => exact cv_ok _ _ _ _
  | global g => simp [Am.ev, XR]
  | func g => simp [Am.ev, XR, XRs, Act.eval]

theorem Sim.put (h : Sim n Y w0 F0 ρ f K a w) {d : Nat} {v : Value} {av : AV} (hd : d < n.n) (hv : XR w (OO K ρ Y) (EK K ρ) av v []) :
    Sim n Y w0 F0 ρ (up f d av) K (a.put (some d) v) w := by
  refine ⟨h.defers, by simp [Act.put, h.size], h.keep, fun t => ?_, h.sees, h.ext, h.new, h.yl⟩
  simp only [Act.put, up]
  by_cases ht : t = d
  · subst ht
    have : t < a.tmps.size := by rw [h.size]; exact hd
    simp [this, hv]
  · have := h.fr t
    rw [if_neg ht]
    simpa [Array.getElem?_setIfInBounds, Ne.symm ht] using this
theorem Sim.put_none (h : Sim n Y w0 F0 ρ f K a w) {v : Value} : Sim n Y w0 F0 ρ f K (a.put none v) w := h

/-- What an operation comes to: the frame that was, what is put into it, and what holds then. -/
def Out (n : NE) (Y : Nat → Prop) (w0 : World) (F0 : Nat → Prop) (f : Fr) (a : Act) (k : AV → KS → Prop) (v : Value) (w' : World) : Prop :=
  ∃ av K' ρ', Sim n Y w0 F0 ρ' f K' a w' ∧ XR w' (OO K' ρ' Y) (EK K' ρ') av v [] ∧ k av K'

theorem Out.here (h : Sim n Y w0 F0 ρ f K a w) {av : AV} {v : Value} {k : AV → KS → Prop} (hv : XR w (OO K ρ Y) (EK K ρ) av v []) (hk : k av K) : Out n Y w0 F0 f a k v w :=
  ⟨av, K, ρ, h, hv, hk⟩

/-- A step on values: it yields in any world what it yields here. -/
def Yl (P : Program) (s : Sem Value) (v : Value) : Prop := ∀ w, s.run P w = .ok v w

theorem xbin_ok {O : Nat → Prop} {E : EI} {op : BinOp} {x y : AV} {k : AV → Prop} {l} {t : TypeId} {cx cy : Operand} {vx vy : Value} (h : xbin op x y k l) (hx : XR w O E x vx []) (hy : XR w O E y vy []) :
    ∃ v av, Yl P (do eqGuard op t cx cy vx vy; binOp op t vx vy) v ∧ XR w O E av v [] ∧ k av := by
  unfold xbin at h
  split at h
  · simp only [XR] at hx hy
    obtain ⟨rfl, _⟩ := hx
    obtain ⟨rfl, _⟩ := hy
    split at h
    · rename_i hcd
      subst hcd
      split at h <;> first
        | exact h.elim
        | exact ⟨_, _, fun w => by simp [eqGuard, binOp, Op.intArith, Op.intCmp]; rfl, by simp [XR], h⟩
        | (obtain ⟨hb, hk⟩ := h; exact ⟨_, _, fun w => by simp [eqGuard, binOp, Op.intDiv, hb]; rfl, by simp [XR], hk⟩)
    · exact h.elim
  · simp only [XR] at hx hy
    obtain ⟨rfl, _⟩ := hx
    obtain ⟨rfl, _⟩ := hy
    split at h <;> first
      | exact h.elim
      | exact ⟨_, _, fun w => by simp [eqGuard, binOp, Op.stringOp]; rfl, by simp [XR, bne], h⟩
      | (obtain ⟨hb, hk⟩ := h; exact ⟨_, _, fun w => by simp [eqGuard, binOp, Op.stringOp]; rw [if_neg (by simp [ByteArray.size]; omega), str_append], by simp [XR], hk⟩)
  · exact h.elim

theorem xun_ok {O : Nat → Prop} {E : EI} {op : UnOp} {x : AV} {k : AV → Prop} {l} {vx : Value} (h : xun op x k l) (hx : XR w O E x vx []) :
    ∃ v av, Yl P (Op.unary op vx) v ∧ XR w O E av v [] ∧ k av := by
  unfold xun at h
  split at h
  · simp only [XR] at hx
    obtain ⟨rfl, _⟩ := hx
    exact ⟨_, _, fun w => by simp [Op.unary]; rfl, by simp [XR], h⟩
  · simp only [XR] at hx
    obtain ⟨rfl, _⟩ := hx
    exact ⟨_, _, fun w => by simp [Op.unary]; rfl, by simp [XR], h⟩
  · exact h.elim

theorem xpick_ok {O : Nat → Prop} {E : EI} {c x y : AV} {k : AV → Prop} {l} {vc vx vy : Value} (h : xpick c x y k l) (hc : XR w O E c vc []) (hx : XR w O E x vx []) (hy : XR w O E y vy []) :
    ∃ v av, Yl P (do pure (if ← asBool vc then vx else vy)) v ∧ XR w O E av v [] ∧ k av := by
  unfold xpick at h
  split at h
  · simp only [XR] at hc
    obtain ⟨rfl, _⟩ := hc
    exact ⟨vx, _, fun w => by simp [asBool], hx, h⟩
  · simp only [XR] at hc
    obtain ⟨rfl, _⟩ := hc
    exact ⟨vy, _, fun w => by simp [asBool], hy, h⟩
  · exact h.elim

theorem XRs_get {O : Nat → Prop} {E : EI} : ∀ {cs : List AV} {vs : List Value} {i : Nat} {c : AV}, XRs w O E cs vs [] → cs[i]? = some c → ∃ v, vs[i]? = some v ∧ XR w O E c v []
  | [], _, _, _, _, h => by cases h
  | c :: cs, vs, i, d, h, hi => by
    simp only [XRs] at h
    obtain ⟨v, vs', n1, n2, rfl, h2, h3, h4⟩ := h
    obtain ⟨rfl, rfl⟩ := List.append_eq_nil_iff.1 h2.symm
    cases i with
    | zero => simp at hi; subst hi; exact ⟨v, by simp, h3⟩
    | succ i => simpa using XRs_get h4 (by simpa using hi)
theorem XRs_length {O : Nat → Prop} {E : EI} : ∀ {cs : List AV} {vs : List Value} {nb : List Nat}, XRs w O E cs vs nb → vs.length = cs.length
  | [], _, _, h => by simp only [XRs] at h; simp [h.1]
  | c :: cs, vs, nb, h => by
    simp only [XRs] at h
    obtain ⟨v, vs', n1, n2, rfl, h2, h3, h4⟩ := h
    simp [XRs_length h4]
theorem XRs_drop {O : Nat → Prop} {E : EI} : ∀ (i : Nat) {cs : List AV} {vs : List Value}, XRs w O E cs vs [] → XRs w O E (cs.drop i) (vs.drop i) []
  | 0, _, _, h => by simpa using h
  | i + 1, [], _, h => by simp only [XRs] at h; simp [h.1, XRs]
  | i + 1, c :: cs, vs, h => by
    simp only [XRs] at h
    obtain ⟨v, vs', n1, n2, rfl, h2, h3, h4⟩ := h
    obtain ⟨rfl, rfl⟩ := List.append_eq_nil_iff.1 h2.symm
    simpa using XRs_drop i h4
theorem XRs_take {O : Nat → Prop} {E : EI} : ∀ (i : Nat) {cs : List AV} {vs : List Value}, XRs w O E cs vs [] → XRs w O E (cs.take i) (vs.take i) []
  | 0, _, _, h => by simp [XRs]
  | i + 1, [], _, h => by simp only [XRs] at h; simp [h.1, XRs]
  | i + 1, c :: cs, vs, h => by
    simp only [XRs] at h
    obtain ⟨v, vs', n1, n2, rfl, h2, h3, h4⟩ := h
    obtain ⟨rfl, rfl⟩ := List.append_eq_nil_iff.1 h2.symm
    simp only [List.take_succ_cons, XRs]
    exact ⟨v, _, [], [], rfl, rfl, h3, XRs_take i h4⟩

theorem xtup_ok {O : Nat → Prop} {E : EI} {x : AV} {i : Nat} {k : AV → Prop} {l} {vx : Value} (h : xtup x i k l) (hx : XR w O E x vx []) :
    ∃ v av, Yl P (Instr.extract vx i) v ∧ XR w O E av v [] ∧ k av := by
  unfold xtup at h
  split at h
  · rename_i cs
    simp only [XR] at hx
    obtain ⟨vs, rfl, hx⟩ := hx
    split at h
    · rename_i c hc
      obtain ⟨v, hv, hr⟩ := XRs_get hx hc
      exact ⟨v, c, fun w => by simp at hv; simp [Instr.extract, hv], hr, h⟩
    · exact h.elim
  · exact h.elim

theorem ti_sl {t : TypeId} {e m : Nat} (h : ti P t = .sl e m) : P.underlying t = some (.slice e) ∧ tz P e = some m := by
  unfold ti at h
  split at h
  · split at h
    · injection h with h1 h2; subst h1 h2; exact ⟨by assumption, by assumption⟩
    · cases h
  · split at h <;> cases h
  · cases h
  · cases h
  · cases h
theorem ti_arr {t : TypeId} {l e m : Nat} (h : ti P t = .arr l e m) : P.underlying t = some (.array l e) ∧ tz P e = some m := by
  unfold ti at h
  split at h
  · split at h <;> cases h
  · split at h
    · injection h with h0 h1 h2; subst h0 h1 h2; exact ⟨by assumption, by assumption⟩
    · cases h
  · cases h
  · cases h
  · cases h
theorem ti_str {t : TypeId} (h : ti P t = .str) : P.underlying t = some .string := by
  unfold ti at h
  split at h
  · split at h <;> cases h
  · split at h <;> cases h
  · assumption
  · cases h
  · cases h
theorem ti_int {t : TypeId} {k : IntKind} (h : ti P t = .int k) : P.underlying t = some (.int k) := by
  unfold ti at h
  split at h
  · split at h <;> cases h
  · split at h <;> cases h
  · cases h
  · injection h with h; subst h; assumption
  · cases h
theorem run_under {t : TypeId} {d : TypeDesc} (h : P.underlying t = some d) (w : World) : (underlying t).run P w = .ok d w := by simp [underlying, h]
theorem run_sizeOf {t : TypeId} {m : Nat} (h : tz P t = some m) (w : World) : (sizeOf t).run P w = .ok m w := by
  unfold tz at h
  cases hi : P.info? t with
  | none => rw [hi] at h; cases h
  | some i => rw [hi] at h; simp at h; simp [sizeOf, typeInfo, hi, h]

theorem Sim.mem (hS : Sim n Y w0 F0 ρ f K a w) {j : Nat} {e : Ent} (hj : kg K j = some e) (hr : e.rows ≠ []) :
    ∃ b, (ρ j).1 = some b ∧ Whole w b (e.rows.length * e.n) ∧ RR w (OO K ρ Y) (e.E (EK K ρ)) e.n b 0 e.rows (ρ j).2 ∧ (e.isBox = true → (ρ j).2 = []) := by
  have h := hS.sees.reg j e hj
  unfold Reg at h
  cases hb : (ρ j).1 with
  | none => rw [hb] at h; exact absurd h.1 hr
  | some b => rw [hb] at h; exact ⟨b, rfl, h⟩
theorem XR_sl_at (hS : Sim n Y w0 F0 ρ f K a w) {j : Nat} {e : Ent} {v : Value} (hj : kg K j = some e) (h : XR w (OO K ρ Y) (EK K ρ) (.sl j) v []) :
    ∃ ad cap, v = .slice ad e.rows.length cap ∧ e.rows.length ≤ cap ∧ (((ρ j).1 = none ∧ cap = 0 ∧ e.rows = []) ∨ ∃ b, (ρ j).1 = some b ∧ ad = some ⟨b, 0, none⟩ ∧ Whole w b (cap * e.n)) := by
  simp only [XR] at h
  cases hb : (ρ j).1 with
  | none =>
    have hr := hS.sees.reg j e hj
    rw [hb] at hr
    obtain ⟨q, hv⟩ := h.2.2.1 e.n e.rows.length (by simp [EK, hj, hb])
    have h0 : e.rows = [] := hr.1
    exact ⟨q, 0, by rw [hv, h0]; rfl, by rw [h0]; exact Nat.le_refl _, .inl ⟨rfl, rfl, h0⟩⟩
  | some b =>
    obtain ⟨cap, h1, h2, h3⟩ := h.2.2.2 b e.n e.rows.length (by simp [EK, hj, hb])
    exact ⟨_, cap, h1, h2, .inr ⟨b, rfl, rfl, h3⟩⟩
theorem XR_ptr_at (hS : Sim n Y w0 F0 ρ f K a w) {j i o : Nat} {e : Ent} {v : Value} (hj : kg K j = some e) (h : XR w (OO K ρ Y) (EK K ρ) (.ptr j i o) v []) :
    ∃ b, (ρ j).1 = some b ∧ v = .pointer (some ⟨b, i * e.n + o, none⟩) := by
  simp only [XR] at h
  cases hb : (ρ j).1 with
  | none => exact (h.2.2.1 e.n e.rows.length (by simp [EK, hj, hb])).elim
  | some b => exact ⟨b, rfl, h.2.2.2 b e.n e.rows.length (by simp [EK, hj, hb])⟩
theorem XR_ptr_mk {E : EI} {O : Nat → Prop} {j i o bl : Nat} {e : Ent} (hj : kg K j = some e) (hb : (ρ j).1 = some bl) (hlt : j < K.length) : XR w O (EK K ρ) (.ptr j i o) (.pointer (some ⟨bl, i * e.n + o, none⟩)) [] := by
  simp only [XR]
  refine ⟨trivial, hlt, fun n len h => ?_, fun b n len h => ?_⟩
  · simp [EK, hj, hb] at h
  · simp [EK, hj, hb] at h
    obtain ⟨rfl, rfl, rfl⟩ := h
    rfl
theorem str_size (x : List UInt8) : (⟨x.toArray⟩ : ByteArray).size = x.length := by simp [ByteArray.size]

theorem xlen_ok (hS : Sim n Y w0 F0 ρ f K a w) {x : AV} {k : AV → Prop} {l} {vx : Value} {T : Array TypeId} {t ty : TypeId} (hT : T[0]? = some t)
    (h : xlen K (ti P t) x k l) (hx : XR w (OO K ρ Y) (EK K ρ) x vx []) :
    ∃ v av, Yl P (Builtin.len_ T ty #[vx]) v ∧ XR w (OO K ρ Y) (EK K ρ) av v [] ∧ k av := by
  unfold xlen at h
  split at h
  · rename_i e m ht
    have hu := (ti_sl ht).1
    simp only [XR] at hx
    obtain ⟨⟨q, rfl⟩, _⟩ := hx
    exact ⟨_, _, fun w => by simp [Builtin.len_, hT, underlying, hu, goInt]; rfl, by simp [XR], h⟩
  · rename_i e m nn rows ht
    have hu := (ti_sl ht).1
    simp only [XR] at hx
    obtain ⟨_, a, cap, rfl, _, _⟩ := hx
    exact ⟨_, _, fun w => by simp [Builtin.len_, hT, underlying, hu, goInt]; rfl, by simp [XR], h⟩
  · rename_i e m j ht
    have hu := (ti_sl ht).1
    split at h
    · rename_i e he
      obtain ⟨ad, cap, rfl, _, _⟩ := XR_sl_at hS he hx
      exact ⟨_, _, fun w => by simp [Builtin.len_, hT, underlying, hu, goInt]; rfl, by simp [XR], h⟩
    · exact h.elim
  · rename_i x ht
    have hu := ti_str ht
    simp only [XR] at hx
    obtain ⟨rfl, _⟩ := hx
    exact ⟨_, _, fun w => by simp [Builtin.len_, hT, underlying, hu, goInt, -ByteArray.size_data, str_size]; rfl, by simp [XR], h⟩
  · rename_i l e m ht
    have hu := (ti_arr ht).1
    exact ⟨_, _, fun w => by simp [Builtin.len_, hT, underlying, hu, goInt]; rfl, by simp [XR], h⟩
  · exact h.elim

theorem add_none (b o k : Nat) : (⟨b, o, none⟩ : Addr).add k = ⟨b, o + k, none⟩ := by
  unfold Addr.add; split
  · rename_i h; subst h; rfl
  · rfl

theorem xidx_ok (hS : Sim n Y w0 F0 ρ f K a w) {x i : AV} {k : AV → Prop} {l} {vx vi : Value} {t : TypeId}
    (h : xidx K (ti P t) x i k l) (hx : XR w (OO K ρ Y) (EK K ρ) x vx []) (hi : XR w (OO K ρ Y) (EK K ρ) i vi []) :
    ∃ v av, Yl P (Instr.indexAt t vx vi) v ∧ XR w (OO K ρ Y) (EK K ρ) av v [] ∧ k av := by
  unfold xidx at h
  split at h
  · rename_i e m nn rows c i ht
    obtain ⟨hu, hz⟩ := ti_sl ht
    simp only [XR] at hi
    obtain ⟨rfl, _⟩ := hi
    split at h
    · rename_i hm
      subst hm
      obtain ⟨⟨h0, h1⟩, hk⟩ := h
      simp only [XR] at hx
      obtain ⟨_, ad, cap, rfl, hc, hr⟩ := hx
      rcases hr with rfl | ⟨bl, off, rfl, hO, hb, hR⟩
      · simp at h1; omega
      · refine ⟨.pointer (some ⟨bl, off + i.toNat * m, none⟩), _, fun w => ?_, ?_, hk⟩
        · simp [Instr.indexAt, asIntOf, run_under hu, run_sizeOf hz, h0, h1, add_none]
        · simp only [XR, true_and, Nat.add_zero]
          exact ⟨bl, off, rfl, hO, hb, hR⟩
    · exact h.elim
  · rename_i e m j c i ht
    obtain ⟨hu, hz⟩ := ti_sl ht
    simp only [XR] at hi
    obtain ⟨rfl, _⟩ := hi
    split at h
    · rename_i e he
      split at h
      · rename_i hm
        subst hm
        obtain ⟨⟨h0, h1⟩, hk⟩ := h
        have hx' := hx
        obtain ⟨ad, cap, rfl, hc, hw⟩ := XR_sl_at hS he hx
        simp only [XR] at hx'
        rcases hw with ⟨_, _, h0'⟩ | ⟨b, hb, rfl, hw⟩
        · rw [h0'] at h1; simp at h1; omega
        refine ⟨.pointer (some ⟨b, i.toNat * e.n, none⟩), _, fun w => ?_, ?_, hk⟩
        · simp [Instr.indexAt, asIntOf, run_under hu, run_sizeOf hz, h0, h1, add_none]
        · exact XR_ptr_mk (E := EN) (o := 0) he hb hx'.2.1
      · exact h.elim
    · exact h.elim
  · rename_i len e m j r o c i ht
    obtain ⟨hu, hz⟩ := ti_arr ht
    simp only [XR] at hi
    obtain ⟨rfl, _⟩ := hi
    split at h
    · rename_i e' he
      obtain ⟨⟨h0, h1⟩, hk⟩ := h
      obtain ⟨b, hb, hv⟩ := XR_ptr_at hS he hx
      subst hv
      have hx' := hx
      simp only [XR] at hx'
      refine ⟨.pointer (some ⟨b, r * e'.n + (o + i.toNat * m), none⟩), _, fun w => ?_, ?_, hk⟩
      · simp [Instr.indexAt, Instr.sureAddr, asIntOf, run_under hu, run_sizeOf hz, h0, h1, add_none, Nat.add_assoc]
      · exact XR_ptr_mk (E := EN) he hb hx'.2.1
    · exact h.elim
  · exact h.elim

theorem tfo_at {t : TypeId} {i o : Nat} {k : TK} (h : tfo P t i = some (o, k)) : ∃ fs fd m, P.underlying t = some (.struct fs) ∧ fs[i]? = some fd ∧ tz P fd.type = some (m + 1) ∧ fd.offset = o ∧ k = tk P fd.type := by
  unfold tfo at h
  split at h
  · rename_i fs hu
    split at h
    · rename_i fd hf
      split at h
      · rename_i m hz
        injection h with h; injection h with h1 h2
        exact ⟨fs, fd, m, hu, hf, hz, h1, h2.symm⟩
      · cases h
    · cases h
  · cases h
theorem tk_agg {t : TypeId} {m : Nat} (h : tk P t = .agg m) : tz P t = some m ∧ ∃ d, P.underlying t = some d ∧ isAggD d = true := by
  unfold tk at h
  split at h
  · rename_i d hu
    split at h
    · rename_i hd
      split at h
      · injection h with h; subst h; exact ⟨by assumption, d, hu, hd⟩
      · cases h
    · split at h <;> cases h
  · cases h
theorem tk_one {t : TypeId} (h : tk P t = .one) : tz P t = some 1 ∧ ∃ d, P.underlying t = some d ∧ isAggD d = false := by
  unfold tk at h
  split at h
  · rename_i d hu
    split at h
    · split at h <;> cases h
    · rename_i hd
      split at h
      · exact ⟨by assumption, d, hu, by simpa using hd⟩
      · cases h
  · cases h
theorem run_isAgg {t : TypeId} {d : TypeDesc} (hu : P.underlying t = some d) (w : World) : (isAgg t).run P w = .ok (isAggD d) w := by
  simp only [isAgg, Sem.run_bind, run_under hu, Result.andThen_ok]
  cases d <;> rfl

theorem xadd_ok (hS : Sim n Y w0 F0 ρ f K a w) {x : AV} {k : AV → Prop} {l} {vx : Value} {t : TypeId} {i : Nat}
    (h : xadd K x (tfo P t i) k l) (hx : XR w (OO K ρ Y) (EK K ρ) x vx []) :
    ∃ v av, Yl P (Instr.fieldAt t vx i) v ∧ XR w (OO K ρ Y) (EK K ρ) av v [] ∧ k av := by
  unfold xadd at h
  split at h
  · rename_i j r p o kk ho
    obtain ⟨fs, fd, m, hu, hf, hm, rfl, _⟩ := tfo_at ho
    split at h
    · rename_i e he
      obtain ⟨b, hb, hv⟩ := XR_ptr_at hS he hx
      subst hv
      have hx' := hx
      simp only [XR] at hx'
      refine ⟨.pointer (some ⟨b, r * e.n + (p + fd.offset), none⟩), _, fun w => ?_, ?_, h⟩
      · simp [Instr.fieldAt, Instr.sureAddr, run_under hu, hf, fieldPlace, run_sizeOf hm, add_none, Nat.add_assoc]
      · exact XR_ptr_mk (E := EN) he hb hx'.2.1
    · exact h.elim
  · rename_i nn rows r p o kk ho
    obtain ⟨fs, fd, m, hu, hf, hm, rfl, _⟩ := tfo_at ho
    simp only [XR] at hx
    obtain ⟨_, bl, off, rfl, hO, hb, hR⟩ := hx
    refine ⟨.pointer (some ⟨bl, off + (r * nn + (p + fd.offset)), none⟩), _, fun w => ?_, ?_, h⟩
    · simp [Instr.fieldAt, Instr.sureAddr, run_under hu, hf, fieldPlace, run_sizeOf hm, add_none, Nat.add_assoc]
    · simp only [XR, true_and]
      exact ⟨bl, off, rfl, hO, hb, hR⟩
  · exact h.elim

/-! ### reading -/
theorem CR_vals {O : Nat → Prop} {E : EI} : ∀ {cs : List AV} {bl o : Nat} {nb : List Nat}, CR w O E bl o cs nb →
    ∃ vs : List Value, vs.length = cs.length ∧ (∀ i, i < cs.length → w.cell? ⟨bl, o + i, none⟩ = vs[i]?) ∧ XRs w O E cs vs nb ∧ ∀ v ∈ vs, oneCell v = true
  | [], bl, o, nb, h => ⟨[], rfl, fun i hi => by simp at hi, by simp only [CR] at h; simp [XRs, h], by simp⟩
  | c :: cs, bl, o, nb, h => by
    simp only [CR] at h
    obtain ⟨v, n1, n2, h1, rfl, h3, h4⟩ := h
    obtain ⟨vs, hl, hv, hx, hone⟩ := CR_vals h4
    refine ⟨v :: vs, by simp [hl], fun i hi => ?_, by simp only [XRs]; exact ⟨v, vs, n1, n2, rfl, rfl, h3, hx⟩, fun u hu => by rcases List.mem_cons.1 hu with rfl | hu; exact h1.2; exact hone u hu⟩
    cases i with
    | zero => simpa using h1.1
    | succ i =>
      have := hv i (by simpa using hi)
      simpa [Nat.add_assoc, Nat.add_comm 1 i] using this
theorem XR_ld {O : Nat → Prop} {E : EI} {c : AV} {v : Value} {nb : List Nat} (h : XR w O EN c v nb) : XR w O E (ld c) v [] := by
  cases c <;> simp [ld, AV.closed, XR] at h ⊢ <;> first | exact h.1 | exact h.2 | trivial
theorem XRs_ld {O : Nat → Prop} {E : EI} : ∀ {cs : List AV} {vs : List Value} {nb : List Nat}, XRs w O EN cs vs nb → XRs w O E (cs.map ld) vs []
  | [], vs, nb, h => by simp only [XRs] at h; simp [XRs, h.1]
  | c :: cs, vs, nb, h => by
    simp only [XRs] at h
    obtain ⟨v, vs', n1, n2, rfl, rfl, h3, h4⟩ := h
    simp only [List.map_cons, XRs]
    exact ⟨v, vs', [], [], rfl, rfl, XR_ld h3, XRs_ld h4⟩
theorem RR_row {O : Nat → Prop} {E : EI} {n : Nat} : ∀ {rs : List (List AV)} {bl off : Nat} {nb : List Nat} {i : Nat}, RR w O E n bl off rs nb → i < rs.length →
    ∃ nb', (rowOf rs i).length = n ∧ CR w O E bl (off + i * n) (rowOf rs i) nb' ∧ ∀ b ∈ nb', b ∈ nb
  | [], _, _, _, _, _, hi => by simp at hi
  | r :: rs, bl, off, nb, i, h, hi => by
    simp only [RR] at h
    obtain ⟨n1, n2, rfl, hr, h3, h4⟩ := h
    cases i with
    | zero => exact ⟨n1, by simpa [rowOf] using hr, by simpa [rowOf] using h3, fun b hb => by simp [hb]⟩
    | succ i =>
      obtain ⟨nb', h5, h6, h7⟩ := RR_row h4 (by simpa using hi : i < rs.length)
      refine ⟨nb', by simpa [rowOf] using h5, ?_, fun b hb => by simp [h7 b hb]⟩
      have e : off + n + i * n = off + (i + 1) * n := by rw [Nat.succ_mul]; omega
      rw [e] at h6
      simpa [rowOf] using h6

/-- A pointer's cells: where it points, and what stands there. -/
theorem cellsAt_ok (hS : Sim n Y w0 F0 ρ f K a w) {p : AV} {vp : Value} (hx : XR w (OO K ρ Y) (EK K ρ) p vp []) (hne : cellsAt K p ≠ []) :
    ∃ bl o, ∃ vs : List Value, vp = .pointer (some ⟨bl, o, none⟩) ∧ bl < w.heap.size ∧ vs.length = (cellsAt K p).length ∧ (∀ i, i < vs.length → w.cell? ⟨bl, o + i, none⟩ = vs[i]?) ∧ XRs w (OO K ρ Y) (EK K ρ) (cellsAt K p) vs [] := by
  unfold cellsAt at hne ⊢
  split at hne
  · rename_i j i o
    split at hne
    · rename_i cs hj
      split at hne
      · rename_i hi
        subst hi
        obtain ⟨bl, hbl, hv⟩ := XR_ptr_at hS hj hx
        obtain ⟨bl', hbl', hW, hR, hb⟩ := hS.mem hj (by simp [Ent.rows])
        obtain rfl : bl = bl' := by rw [hbl] at hbl'; injection hbl'
        have hb := hb rfl
        simp only [Ent.rows, Ent.n, Ent.E, RR] at hR
        obtain ⟨n1, n2, h1, _, hC, rfl⟩ := hR
        rw [hb] at h1
        obtain ⟨rfl, _⟩ := List.append_eq_nil_iff.1 h1.symm
        obtain ⟨vs, hl, hc, hX, _⟩ := CR_vals hC
        refine ⟨bl, o, vs.drop o, ?_, hW.lt, ?_, ?_, ?_⟩
        · rw [hv]; simp
        · simp [hj, hl]
        · intro i hi
          rw [List.length_drop] at hi
          have := hc (o + i) (by omega)
          rw [List.getElem?_drop, ← this]; simp
        · simpa [hj] using XRs_drop o hX
      · exact absurd rfl hne
    · rename_i m rows hj
      have hi : i < rows.length := by
        rcases Nat.lt_or_ge i rows.length with h | h
        · exact h
        · simp [rowOf, List.getD, List.getElem?_eq_none h] at hne
      obtain ⟨bl, hbl, hv⟩ := XR_ptr_at hS hj hx
      obtain ⟨bl', hbl', hW, hR, hb⟩ := hS.mem hj (by simp only [Ent.rows]; rintro rfl; simp at hi)
      obtain rfl : bl = bl' := by rw [hbl] at hbl'; injection hbl'
      simp only [Ent.rows, Ent.n, Ent.E] at hR hv
      obtain ⟨nb', h5, h6, h7⟩ := RR_row hR hi
      obtain ⟨vs, hl, hc, hX, _⟩ := CR_vals h6
      refine ⟨bl, i * m + o, vs.drop o, hv, hW.lt, ?_, ?_, ?_⟩
      · simp [hj, hl]
      · intro q hq
        rw [List.length_drop] at hq
        have := hc (o + q) (by omega)
        rw [List.getElem?_drop, ← this]; simp [Nat.add_assoc]
      · have := XRs_drop o (XRs_ld (E := EK K ρ) hX)
        simpa [hj, List.map_drop] using this
    · exact absurd rfl hne
  · rename_i m rows i o
    simp only [XR] at hx
    obtain ⟨_, bl, off, rfl, hO, hb, hR⟩ := hx
    have hi : i < rows.length := by
      rcases Nat.lt_or_ge i rows.length with h | h
      · exact h
      · simp [rowOf, List.getD, List.getElem?_eq_none h] at hne
    obtain ⟨nb', h5, h6, h7⟩ := RR_row hR hi
    obtain ⟨vs, hl, hc, hX, _⟩ := CR_vals h6
    refine ⟨bl, off + (i * m + o), vs.drop o, rfl, hb, ?_, ?_, ?_⟩
    · simp [hl]
    · intro q hq
      rw [List.length_drop] at hq
      have := hc (o + q) (by omega)
      rw [List.getElem?_drop, ← this]; simp [Nat.add_assoc]
    · have := XRs_drop o (XRs_ld (E := EK K ρ) hX)
      simpa [List.map_drop] using this
  · exact absurd rfl hne

theorem loadCellsFrom_run (bl o : Nat) : ∀ (m j : Nat) (acc : Array Value) (vs : List Value), vs.length = m → (∀ i, i < m → w.cell? ⟨bl, o + (j + i), none⟩ = vs[i]?) →
    (loadCellsFrom ⟨bl, o, none⟩ j m acc).run P w = .ok (acc ++ vs.toArray) w
  | 0, j, acc, vs, hl, h => by
    have : vs = [] := List.length_eq_zero_iff.1 hl
    subst this; simp [loadCellsFrom]
  | m + 1, j, acc, vs, hl, h => by
    cases vs with
    | nil => simp at hl
    | cons v vs =>
      have h0 := h 0 (by omega)
      simp only [Nat.add_zero, List.getElem?_cons_zero] at h0
      simp only [loadCellsFrom, Sem.run_bind, run_load, add_none, h0, Result.andThen_ok]
      rw [loadCellsFrom_run bl o m (j + 1) (acc.push v) vs (by simpa using hl) (fun i hi => by
        have := h (i + 1) (by omega)
        simpa [Nat.add_assoc, Nat.add_comm 1 i] using this)]
      simp

theorem xload_ok (hS : Sim n Y w0 F0 ρ f K a w) {p : AV} {k : AV → Prop} {l} {vp : Value} {t : TypeId}
    (h : xload (tk P t) (cellsAt K p) k l) (hx : XR w (OO K ρ Y) (EK K ρ) p vp []) :
    ∃ v av, (Instr.loadAt t vp).run P w = .ok v w ∧ XR w (OO K ρ Y) (EK K ρ) av v [] ∧ k av := by
  unfold xload at h
  split at h
  · rename_i ht
    obtain ⟨hz, d, hu, hd⟩ := tk_one ht
    split at h
    · rename_i c cs hc
      obtain ⟨bl, o, vs, rfl, hb, hl, hv, hX⟩ := cellsAt_ok hS hx (by rw [hc]; simp)
      rw [hc] at hl hX
      simp only [XRs] at hX
      obtain ⟨v, vs', n1, n2, rfl, h2, h3, h4⟩ := hX
      obtain ⟨rfl, rfl⟩ := List.append_eq_nil_iff.1 h2.symm
      have h0 := hv 0 (by simp)
      simp only [Nat.add_zero, List.getElem?_cons_zero] at h0
      refine ⟨v, c, ?_, h3, h⟩
      simp [Instr.loadAt, Instr.sureAddr, loadVar, run_isAgg hu, hd, h0]
    · exact h.elim
  · rename_i m ht
    obtain ⟨hz, d, hu, hd⟩ := tk_agg ht
    split at h
    · rename_i hm
      obtain ⟨h0m, hm⟩ := hm
      have hm0 : cellsAt K p ≠ [] := fun e => by rw [e] at hm; simp at hm; omega
      · obtain ⟨bl, o, vs, rfl, hb, hl, hv, hX⟩ := cellsAt_ok hS hx hm0
        refine ⟨.agg (vs.take m).toArray, _, ?_, ?_, h⟩
        · simp only [Instr.loadAt, Instr.sureAddr, loadVar, Sem.run_bind, Sem.run_pure, Result.andThen_ok, run_isAgg hu, hd, if_true, run_sizeOf hz, loadCells]
          rw [loadCellsFrom_run bl o m 0 #[] (vs.take m) (by simp; omega) (fun i hi => by
            have := hv i (by omega)
            rw [Nat.zero_add, this, List.getElem?_take, if_pos hi])]
          simp
        · simp only [XR]
          exact ⟨_, rfl, by simpa using XRs_take m hX⟩
    · exact h.elim
  · exact h.elim

theorem xpart_ok {O : Nat → Prop} {E : EI} {x : AV} {o : Nat} {k : AV → Prop} {l} {cs : Array Value} {t : TypeId}
    (h : xpart (tk P t) o x k l) (hx : XR w O E x (.agg cs) []) :
    ∃ v av, Yl P (part t cs o) v ∧ XR w O E av v [] ∧ k av := by
  unfold xpart at h
  split at h
  · rename_i as
    simp only [XR] at hx
    obtain ⟨vs, h1, hx⟩ := hx
    injection h1 with h1
    subst h1
    have hd := XRs_drop o hx
    unfold xload at h
    split at h
    · rename_i ht
      obtain ⟨hz, d, hu, hdd⟩ := tk_one ht
      split at h
      · rename_i c r hc
        rw [hc] at hd
        simp only [XRs] at hd
        obtain ⟨v, vs', n1, n2, h1, h2, h3, h4⟩ := hd
        obtain ⟨rfl, rfl⟩ := List.append_eq_nil_iff.1 h2.symm
        have h0 : cs[o]? = some v := by
          have := congrArg (fun l => l[0]?) h1
          simpa using this
        refine ⟨v, c, fun w => ?_, h3, h⟩
        simp [part, run_isAgg hu, hdd, h0]
      · exact h.elim
    · rename_i m ht
      obtain ⟨hz, d, hu, hdd⟩ := tk_agg ht
      split at h
      · rename_i hm
        refine ⟨.agg (cs.extract o (o + m)), _, fun w => ?_, ?_, h⟩
        · simp [part, run_isAgg hu, hdd, run_sizeOf hz]
        · simp only [XR]
          refine ⟨_, rfl, ?_⟩
          have := XRs_take m hd
          simpa [List.extract_eq_take_drop, List.take_drop] using this
      · exact h.elim
    · exact h.elim
  · exact h.elim
end
end Go.Proofs.Ytomlnigcnkjelaa.Am
