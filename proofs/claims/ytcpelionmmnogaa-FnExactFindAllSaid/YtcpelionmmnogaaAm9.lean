/- An abstract machine for the walks: regions in their own order, and control. No condition. -/
import Derived.Test.YtcpelionmmnogaaAm8
namespace Go.Proofs.Ytcpelionmmnogaa.Am
open Go
set_option linter.unusedVariables false
set_option linter.unusedSimpArgs false

/-- A guard: the slot that it looks at, and what it wants there. The slot's value is put there as what it was found to be. -/
def xgd (s : Option Tmp) (want : Bool) (f : Fr) (yes no : Fr → Prop) (_ : Lk (f, yes, no)) : Prop :=
  match s with
  | some d => match f d with
    | .b x => XBr x (if want = true then yes (up f d (.b true)) else no (up f d (.b true))) (if want = true then no (up f d (.b false)) else yes (up f d (.b false))) ()
    | .tup [] => no f
    | _ => False
  | none => False
def xset (d : Option Tmp) (v : AV) (f : Fr) (k : Fr → Prop) (_ : Lk (f, k)) : Prop :=
  match d with
  | some d => xlet v (fun v => k (up f d v)) ()
  | none => k f
/-- The operations one after the other. -/
def xops [Wd] (P : Program) (ops : Array Oper) : (l : List Oper) → (f : Fr) → (K : KS) → (k : Fr → KS → Prop) → (_ : Lk (l, f, k)) → Prop
  | [], f, K, k, _ => k f K
  | o :: r, f, K, k, _ => match o.guard with
    | none => xop P o.op f K (fun v K' => xset o.dst v f (fun f => xops P ops r f K' k ()) ()) ()
    | some (j, want) => xgd ((ops[j]?).bind (·.dst)) want f (fun f => xop P o.op f K (fun v K' => xset o.dst v f (fun f => xops P ops r f K' k ()) ()) ()) (fun f => xset o.dst (.tup []) f (fun f => xops P ops r f K k ()) ()) ()
def dstOK (n : Nat) (o : Oper) : Bool := match o.dst with | some d => d < n | none => true
def codeOK (n : Nat) : Code → Bool
  | .region _ ops _ => ops.toList.all (dstOK n)
  | .seq a b => codeOK n a && codeOK n b
  | .cond _ a b => codeOK n a && codeOK n b
  | .block _ c => codeOK n c
  | .loop c => codeOK n c
  | _ => true

section
variable {P : Program} {n : NE} {Y : Nat → Prop} {w0 : World} {F0 : Nat → Prop} {ρ : RHO} {f : Fr} {K : KS} {a : Act} {w : World}

/-- Some state of the walk that the act and the world are in. -/
def Has [Wd] (n : NE) (Y : Nat → Prop) (w0 : World) (F0 : Nat → Prop) (R : Fr → KS → Prop) (a : Act) (w : World) : Prop :=
  ∃ f K ρ, Sim n Y w0 F0 ρ f K a w ∧ R f K

theorem Sim.putO [Wd] (hS : Sim n Y w0 F0 ρ f K a w) {d : Option Tmp} (hd : ∀ i, d = some i → i < n.n) {av : AV} {v : Value} (hv : XR w (OO K ρ Y) (EK K ρ) av v []) {k : Fr → Prop} {l} (h : xset d av f k l) :
    ∃ f', Sim n Y w0 F0 ρ f' K (a.put d v) w ∧ k f' := by
  cases d with
  | none => exact ⟨f, hS, h⟩
  | some i => exact ⟨_, hS.put (hd i rfl) hv, h⟩
theorem Sim.self [Wd] (hS : Sim n Y w0 F0 ρ f K a w) (d : Nat) : Sim n Y w0 F0 ρ (up f d (f d)) K a w := by
  have : up f d (f d) = f := by funext t; unfold up; split <;> simp [*]
  rw [this]; exact hS

theorem undef_ok (w : World) (O : Nat → Prop) (E : EI) : XR w O E (.tup []) undef [] := by simp only [XR]; exact ⟨#[], rfl, by simp [XRs]⟩
theorem not_wanted {ops : Array Oper} {o : Oper} {j d : Nat} {want : Bool} {O : Nat → Prop} {E : EI} (hg : o.guard = some (j, want)) (hj : (ops[j]?).bind (·.dst) = some d) (hv : XR w O E (.tup []) (a.tmps.getD d undef) []) :
    Region.wanted o (yielded ops a.tmps) = false := by
  simp only [XR] at hv
  obtain ⟨vs, h1, h2⟩ := hv
  have hy : yielded ops a.tmps j = none := by
    unfold yielded
    simp only [hj, Option.bind_some]
    rw [Array.getD_eq_getD_getElem?] at h1
    split
    · rename_i b hb; rw [hb] at h1; cases h1
    · rfl
  simp [Region.wanted, hg, hy]
theorem xops_ok [Wd] {ops : Array Oper} {Q : Exit → Act → World → Prop} {k : Fr → KS → Prop} (hQ : ∀ a w, Has n Y w0 F0 k a w → Q .normal a w) :
    ∀ (is : List Nat) (l : List Oper), is.map (ops[·]?) = l.map some → (l.all (dstOK n.n)) = true → ∀ (ρ : RHO) (f : Fr) (K : KS) (a : Act) (w : World), Sim n Y w0 F0 ρ f K a w → xops P ops l f K k () → wpOps P ops Q is a w
  | [], [], _, _, ρ, f, K, a, w, hS, h => hQ a w ⟨f, K, ρ, hS, h⟩
  | [], _ :: _, hm, _, _, _, _, _, _, _, _ => by simp at hm
  | _ :: _, [], hm, _, _, _, _, _, _, _, _ => by simp at hm
  | i :: is, o :: l, hm, hd, ρ, f, K, a, w, hS, h => by
    simp only [List.map_cons, List.cons.injEq] at hm
    simp only [List.all_cons, Bool.and_eq_true] at hd
    have hdst : ∀ d, o.dst = some d → d < n.n := fun d hd' => by simpa [dstOK, hd'] using hd.1
    simp only [wpOps, hm.1]
    have run : ∀ {ρ f K}, Sim n Y w0 F0 ρ f K a w → xop P o.op f K (fun v K' => xset o.dst v f (fun f => xops P ops l f K' k ()) ()) () → o.wp P a w (wpOps P ops Q is) Q := fun {ρ f K} hS h =>
      (xop_ok hS h).wp fun v w' ⟨av, K', ρ', h1, h2, h3⟩ => by
        obtain ⟨f', h4, h5⟩ := h1.putO hdst h2 h3
        exact xops_ok hQ is l hm.2 hd.2 _ _ _ _ _ h4 h5
    unfold xops at h
    split at h
    · rename_i hg
      rw [if_pos (by simp [Region.wanted, hg])]
      exact .inl (run hS h)
    · rename_i j want hg
      unfold xgd at h
      split at h
      · rename_i d hj
        have no : ∀ f, Sim n Y w0 F0 ρ f K a w → xset o.dst (.tup []) f (fun f => xops P ops l f K k ()) () → wpOps P ops Q is (a.put o.dst undef) w := fun f hS h => by
          obtain ⟨f', h4, h5⟩ := hS.putO hdst (v := undef) (undef_ok _ _ _) h
          exact xops_ok hQ is l hm.2 hd.2 _ _ _ _ _ h4 h5
        split at h
        · rename_i x hx
          have hv := hS.fr d
          rw [hx] at hv
          simp only [XR] at hv
          have hdn : d < n.n := by
            refine Nat.lt_of_not_le fun hge => ?_
            have := hv.1
            rw [Array.getD_eq_getD_getElem?, Array.getElem?_eq_none (by rw [hS.size]; exact hge)] at this
            cases this
          have hy : yielded ops a.tmps j = some x := by
            unfold yielded
            have h1 : a.tmps[d]? = some (.bool x) := by
              have h2 := hv.1
              rw [Array.getD_eq_getD_getElem?] at h2
              rw [Array.getElem?_eq_getElem (by rw [hS.size]; exact hdn)] at h2 ⊢
              simpa using h2
            simp only [hj, Option.bind_some, h1]
          have hw : Region.wanted o (yielded ops a.tmps) = (x == want) := by simp [Region.wanted, hg, hy]
          have hS' := hS.self d
          rw [hx] at hS'
          unfold XBr at h
          rw [hw]
          cases x <;> cases want <;> simp at h ⊢
          · exact .inl (run hS' h)
          · exact no _ hS' h
          · exact no _ hS' h
          · exact .inl (run hS' h)
        · rename_i hx
          have hv := hS.fr d
          rw [hx] at hv
          rw [not_wanted hg hj hv]
          exact no _ hS h
        · exact h.elim
      · exact h.elim
end

inductive XE where
  | normal | ret | exit (id : Nat)
abbrev QT := XE → Fr → KS → Prop
def xthen (k : Fr → KS → Prop) (Q : QT) : QT
  | .normal, f, K => k f K
  | e, f, K => Q e f K
def xblk (id : Nat) (Q : QT) : QT
  | .exit id', f, K => if id' = id then Q .normal f K else Q (.exit id') f K
  | e, f, K => Q e f K
/-- Whatever is in state (f, K) is in state (f', K') as well; the first z regions are to keep their numbers. -/
def Wk [Wd] (z : Nat) (f : Fr) (K : KS) (f' : Fr) (K' : KS) : Prop :=
  ∀ (n : NE) (Y : Nat → Prop) (w0 : World) (F0 : Nat → Prop) (ρ : RHO) (a : Act) (w : World), n.E.sz ≤ z → Sim n Y w0 F0 ρ f K a w → ∃ ρ', Sim n Y w0 F0 ρ' f' K' a w
/-- A loop by an invariant with a measure. -/
def xloop [Wd] (z : Nat) (body : QT → Fr → KS → Prop) (Q : QT) (f : Fr) (K : KS) : Prop :=
  ∃ I : Nat → Fr → KS → Prop, (∃ m f' K', Wk z f K f' K' ∧ I m f' K') ∧
    ∀ m f K, I m f K → body (xthen (fun f K => ∃ m' f' K', Wk z f K f' K' ∧ m' < m ∧ I m' f' K') Q) f K
/-- A region whose order is drawn: to be replaced by what holds in every order. -/
def xdrawn [Wd] (P : Program) (ops : Array Oper) (f : Fr) (K : KS) (k : Fr → KS → Prop) (_ : Lk (ops, f, k)) : Prop :=
  ∀ (n : NE) (Y : Nat → Prop) (w0 : World) (F0 : Nat → Prop) (ρ : RHO) (a : Act) (w : World) (Q : Exit → Act → World → Prop), ops.toList.all (dstOK n.n) = true → Sim n Y w0 F0 ρ f K a w →
    (∀ a w, Has n Y w0 F0 k a w → Q .normal a w) → wpAny P .any ops Q ops.size (Array.replicate ops.size false) a w
def xcode [Wd] (P : Program) (z : Nat) : (c : Code) → (Q : QT) → (f : Fr) → KS → (_ : Lk (c, Q, f)) → Prop
  | .skip, Q, f, K, _ => Q .normal f K
  | .ret, Q, f, K, _ => Q .ret f K
  | .exit id, Q, f, K, _ => Q (.exit id) f K
  | .seq a b, Q, f, K, _ => xcode P z a (xthen (fun f K => xcode P z b Q f K ()) Q) f K ()
  | .cond c a b, Q, f, K, _ => xcond (ev f c) (xcode P z a Q f K ()) (xcode P z b Q f K ()) ()
  | .block id c, Q, f, K, _ => xcode P z c (xblk id Q) f K ()
  | .loop c, Q, f, K, _ => xloop z (fun Q f K => xcode P z c Q f K ()) Q f K
  | .region _ ops false, Q, f, K, _ => xops P ops ops.toList f K (fun f K => Q .normal f K) ()
  | .region _ ops true, Q, f, K, _ => xdrawn P ops f K (fun f K => Q .normal f K) ()
  | _, _, _, _, _ => False

section
variable {P : Program} {n : NE} {Y : Nat → Prop} {w0 : World} {F0 : Nat → Prop} {ρ : RHO} {f : Fr} {K : KS} {a : Act} {w : World}

theorem Sim.drawn [Wd] (hS : Sim n Y w0 F0 ρ f K a w) : Sim n Y w0 F0 ρ f K a { w with drawn := w.drawn + 1 } := by
  have hs : Same (OO K ρ Y) (EK K ρ) w (OO K ρ Y) (EK K ρ) { w with drawn := w.drawn + 1 } :=
    ⟨Nat.le_refl _, fun _ _ _ => rfl, fun _ h _ => h, Nat.le_refl _, fun _ _ _ h => h, fun _ _ _ _ _ _ _ h => h⟩
  have he : Ext (fun _ => False) w { w with drawn := w.drawn + 1 } := ⟨rfl, rfl, rfl, Nat.le_refl _, fun _ _ _ => rfl, fun _ _ h => h⟩
  refine ⟨hS.defers, hS.size, hs.keep hS.keep, fun t => XR.mono (f t) hs _ _ (by simp) (hS.fr t), ⟨fun j e hj => ?_, hS.sees.nd, hS.sees.lt, hS.sees.dj⟩, hS.ext.trans he (fun _ h => h) (fun _ _ h => h.elim), hS.new, hS.yl⟩
  have hs' : Same (OO K ρ Y) (e.E (EK K ρ)) w (OO K ρ Y) (e.E (EK K ρ)) { w with drawn := w.drawn + 1 } := by
    cases e with
    | box cs => exact hs
    | lst n rows => exact hs.en
  exact Reg.mono hs' (fun _ _ => rfl) (fun _ _ => rfl) (hS.sees.reg j e hj)

/-- What a code must come to. -/
def QQ [Wd] (n : NE) (Y : Nat → Prop) (w0 : World) (F0 : Nat → Prop) (Q : QT) : Exit → Act → World → Prop
  | .normal, a, w => Has n Y w0 F0 (Q .normal) a w
  | .ret, a, w => Has n Y w0 F0 (Q .ret) a w
  | .exit id, a, w => Has n Y w0 F0 (Q (.exit id)) a w
  | _, _, _ => False

theorem xcode_ok [Wd] {z : Nat} (hz : n.E.sz ≤ z) (hm : P.follows .mixedOrders = true) : ∀ (c : Code), codeOK n.n c = true → ∀ {Q : QT} {ρ : RHO} {f : Fr} {K : KS} {a : Act} {w : World}, Sim n Y w0 F0 ρ f K a w → xcode P z c Q f K () → c.wp P (QQ n Y w0 F0 Q) a w := by
  intro c
  induction c with
  | skip => intro _ Q ρ f K a w hS h; exact wp_skip ⟨f, K, ρ, hS, h⟩
  | ret => intro _ Q ρ f K a w hS h; exact wp_ret ⟨f, K, ρ, hS, h⟩
  | exit id => intro _ Q ρ f K a w hS h; exact wp_exit ⟨f, K, ρ, hS, h⟩
  | region id ops draw =>
    intro hc Q ρ f K a w hS h
    cases draw with
    | false =>
      exact wp_region (xops_ok (fun a w h => h) _ _ (by
        apply List.ext_getElem?
        intro i
        simp only [List.getElem?_map]
        rcases Nat.lt_or_ge i ops.size with h' | h'
        · simp [h']
        · simp [h']) hc _ _ _ _ _ hS h)
    | true => exact wp_region_any hm (h n Y w0 F0 ρ a _ _ hc hS.drawn (fun a w h => h))
  | seq x y ihx ihy =>
    intro hc Q ρ f K a w hS h
    simp only [codeOK, Bool.and_eq_true] at hc
    refine wp_seq (wp_mono (ihx hc.1 hS h) fun e a w hq => ?_)
    cases e with
    | normal => obtain ⟨f, K, ρ, h1, h2⟩ := hq; exact ihy hc.2 h1 h2
    | ret => exact hq
    | exit id => exact hq
    | goto l => exact hq
    | panic l => exact hq
    | outgrown => exact hq
  | cond c x y ihx ihy =>
    intro hc Q ρ f K a w hS h
    simp only [codeOK, Bool.and_eq_true] at hc
    unfold xcode xcond at h
    split at h
    · rename_i b hb
      have := hS.ev c
      rw [hb] at this
      simp only [XR] at this
      exact wp_cond_split this.1 (fun hb => ihx hc.1 hS (h.1 hb)) (fun hb => ihy hc.2 hS (h.2 hb))
    · exact h.elim
  | block id c ih =>
    intro hc Q ρ f K a w hS h
    refine wp_block (wp_mono (ih hc hS h) fun e a w hq => ?_)
    cases e with
    | exit id' =>
      obtain ⟨f1, K1, ρ1, q1, q2⟩ := hq
      simp only [xblk] at q2
      simp only [Exit.inBlock]
      split
      · rename_i he; rw [if_pos he] at q2; exact ⟨f1, K1, ρ1, q1, q2⟩
      · rename_i he; rw [if_neg he] at q2; exact ⟨f1, K1, ρ1, q1, q2⟩
    | normal => exact hq
    | ret => exact hq
    | goto l => exact hq
    | panic l => exact hq
    | outgrown => exact hq
  | loop c ih =>
    intro hc Q ρ f K a w hS h
    obtain ⟨I, ⟨m, f', K', hk, hI⟩, hr⟩ := h
    obtain ⟨ρ', hS'⟩ := hk n Y w0 F0 ρ a w hz hS
    have key : ∀ m a w, Has n Y w0 F0 (I m) a w → ∀ (b : Frame) (k : List Item) (cs : List Frame),
        ∃ e a' w', QQ n Y w0 F0 Q e a' w' ∧ Arrives P (lone (b.at a (.code c :: .inLoop c :: k)) cs w) b k cs e a' w' := by
      intro m
      induction m using Nat.strongRecOn with
      | _ m ihm =>
        intro a w ⟨f, K, ρ, hS, hI⟩ b k cs
        obtain ⟨e, a₁, w₁, hq, harr⟩ := ih hc hS (hr m f K hI) b (.inLoop c :: k) cs
        cases e with
        | normal =>
          obtain ⟨f1, K1, ρ1, q1, m', f2, K2, q2, q3, q4⟩ := hq
          obtain ⟨ρ2, q5⟩ := q2 n Y w0 F0 ρ1 a₁ w₁ hz q1
          obtain ⟨e₂, a₂, w₂, hq₂, harr₂⟩ := ihm m' q3 a₁ w₁ ⟨f2, K2, ρ2, q5, q4⟩ b k cs
          exact ⟨e₂, a₂, w₂, hq₂, .of_steps (Steps.trans harr (.one step_inLoop)) harr₂⟩
        | exit id =>
          have hq' : QQ n Y w0 F0 Q (.exit id) a₁ w₁ := hq
          exact ⟨_, a₁, w₁, hq', .pass (x := .inLoop c) rfl (fun _ _ => .inl (by simp)) harr⟩
        | ret =>
          have hq' : QQ n Y w0 F0 Q .ret a₁ w₁ := hq
          exact ⟨_, a₁, w₁, hq', .pass (x := .inLoop c) rfl (fun _ _ => .inl (by simp)) harr⟩
        | goto l => exact hq.elim
        | panic ch => exact hq.elim
        | outgrown => exact hq.elim
    intro b k cs
    obtain ⟨e, a', w', hq, harr⟩ := key m a w ⟨f', K', ρ', hS', hI⟩ b k cs
    exact ⟨e, a', w', hq, .of_steps (.one step_loop) harr⟩
  | rangeFunc _ _ _ _ _ _ => intro _ Q ρ f K a w hS h; exact h.elim
  | scope _ _ => intro _ Q ρ f K a w hS h; exact h.elim
  | label _ => intro _ Q ρ f K a w hS h; exact h.elim
  | goto _ => intro _ Q ρ f K a w hS h; exact h.elim
  | refuse _ => intro _ Q ρ f K a w hS h; exact h.elim
end
end Go.Proofs.Ytcpelionmmnogaa.Am
