/- An evaluator over the abstract machine's values: states weakened, results. No condition. -/
import Derived.Test.YtcpelionmmnogaaEv4
namespace Go.Proofs.Ytcpelionmmnogaa.Am
open Go
set_option linter.unusedVariables false
set_option linter.unusedSimpArgs false

/-! ### values that name regions below m -/
mutual
def wfA (m : Nat) : AV → Prop
  | .sl j => j < m
  | .ptr j _ _ => j < m
  | .agg cs => wfAs m cs
  | .tup cs => wfAs m cs
  | .clo _ cs => wfAs m cs
  | _ => True
def wfAs (m : Nat) : List AV → Prop
  | [] => True
  | c :: cs => wfA m c ∧ wfAs m cs
end
section
variable {w : World} {O O' : Nat → Prop} {E E' : EI}
mutual
theorem XR_wf : ∀ (a : AV) {v : Value} {nb : List Nat}, XR w O E a v nb → wfA E.sz a
  | .sl j, v, nb, h => by simp only [XR] at h; simp only [wfA]; exact h.2.1
  | .ptr j i o, v, nb, h => by simp only [XR] at h; simp only [wfA]; exact h.2.1
  | .agg cs, v, nb, h => by simp only [XR] at h; obtain ⟨vs, _, h⟩ := h; simp only [wfA]; exact XRs_wf cs h
  | .tup cs, v, nb, h => by simp only [XR] at h; obtain ⟨vs, _, h⟩ := h; simp only [wfA]; exact XRs_wf cs h
  | .clo g cs, v, nb, h => by simp only [XR] at h; obtain ⟨_, vs, _, h⟩ := h; simp only [wfA]; exact XRs_wf cs h
  | .u, v, nb, h => by simp [wfA]
  | .b _, v, nb, h => by simp [wfA]
  | .i _ _, v, nb, h => by simp [wfA]
  | .s _, v, nb, h => by simp [wfA]
  | .nil, v, nb, h => by simp [wfA]
  | .imm _ _, v, nb, h => by simp [wfA]
  | .own _ _, v, nb, h => by simp [wfA]
  | .iptr _ _ _ _, v, nb, h => by simp [wfA]
theorem XRs_wf : ∀ (cs : List AV) {vs : List Value} {nb : List Nat}, XRs w O E cs vs nb → wfAs E.sz cs
  | [], vs, nb, h => by simp [wfAs]
  | c :: cs, vs, nb, h => by
    simp only [XRs] at h
    obtain ⟨v, vs', n1, n2, _, _, h1, h2⟩ := h
    simp only [wfAs]
    exact ⟨XR_wf c h1, XRs_wf cs h2⟩
end
theorem CR_wf : ∀ (cs : List AV) {bl o : Nat} {nb : List Nat}, CR w O E bl o cs nb → wfAs E.sz cs
  | [], bl, o, nb, h => by simp [wfAs]
  | c :: cs, bl, o, nb, h => by
    simp only [CR] at h
    obtain ⟨v, n1, n2, _, _, h1, h2⟩ := h
    simp only [wfAs]
    exact ⟨XR_wf c h1, CR_wf cs h2⟩
mutual
theorem XR_cut (hO : ∀ b, O' b → O b) (hE : ∀ j p, E'.of j = some p → E.of j = some p) : ∀ (a : AV) {v : Value} {nb : List Nat}, wfA E'.sz a → XR w O E a v nb → XR w O' E' a v nb
  | .sl j, v, nb, hw, h => by
    simp only [XR] at h ⊢
    simp only [wfA] at hw
    exact ⟨h.1, hw, fun n len he => h.2.2.1 n len (hE _ _ he), fun bl n len he => h.2.2.2 bl n len (hE _ _ he)⟩
  | .ptr j i o, v, nb, hw, h => by
    simp only [XR] at h ⊢
    simp only [wfA] at hw
    exact ⟨h.1, hw, fun n len he => h.2.2.1 n len (hE _ _ he), fun bl n len he => h.2.2.2 bl n len (hE _ _ he)⟩
  | .agg cs, v, nb, hw, h => by
    simp only [XR] at h ⊢
    simp only [wfA] at hw
    obtain ⟨vs, h1, h2⟩ := h
    exact ⟨vs, h1, XRs_cut hO hE cs hw h2⟩
  | .tup cs, v, nb, hw, h => by
    simp only [XR] at h ⊢
    simp only [wfA] at hw
    obtain ⟨vs, h1, h2⟩ := h
    exact ⟨vs, h1, XRs_cut hO hE cs hw h2⟩
  | .clo g cs, v, nb, hw, h => by
    simp only [XR] at h ⊢
    simp only [wfA] at hw
    obtain ⟨h0, vs, h1, h2⟩ := h
    exact ⟨h0, vs, h1, XRs_cut hO hE cs hw h2⟩
  | .u, v, nb, hw, h => by simpa only [XR] using h
  | .b _, v, nb, hw, h => by simpa only [XR] using h
  | .i _ _, v, nb, hw, h => by simpa only [XR] using h
  | .s _, v, nb, hw, h => by simpa only [XR] using h
  | .nil, v, nb, hw, h => by simpa only [XR] using h
  | .imm n rows, v, nb, hw, h => by
    have h1 : XR w O EN (.imm n rows) v nb := by simpa only [XR] using h
    have := XR.mono _ (Same.weak hO) v nb (fun _ _ => rfl) h1
    simpa only [XR] using this
  | .own n rows, v, nb, hw, h => by
    have h1 : XR w O EN (.own n rows) v nb := by simpa only [XR] using h
    have := XR.mono _ (Same.weak hO) v nb (fun _ _ => rfl) h1
    simpa only [XR] using this
  | .iptr n rows i o, v, nb, hw, h => by
    have h1 : XR w O EN (.iptr n rows i o) v nb := by simpa only [XR] using h
    have := XR.mono _ (Same.weak hO) v nb (fun _ _ => rfl) h1
    simpa only [XR] using this
theorem XRs_cut (hO : ∀ b, O' b → O b) (hE : ∀ j p, E'.of j = some p → E.of j = some p) : ∀ (cs : List AV) {vs : List Value} {nb : List Nat}, wfAs E'.sz cs → XRs w O E cs vs nb → XRs w O' E' cs vs nb
  | [], vs, nb, hw, h => by simpa only [XRs] using h
  | c :: cs, vs, nb, hw, h => by
    simp only [XRs] at h ⊢
    simp only [wfAs] at hw
    obtain ⟨v, vs', n1, n2, h1, h2, h3, h4⟩ := h
    exact ⟨v, vs', n1, n2, h1, h2, XR_cut hO hE c hw.1 h3, XRs_cut hO hE cs hw.2 h4⟩
end
theorem CR_cut (hO : ∀ b, O' b → O b) (hE : ∀ j p, E'.of j = some p → E.of j = some p) : ∀ (cs : List AV) {bl o : Nat} {nb : List Nat}, wfAs E'.sz cs → CR w O E bl o cs nb → CR w O' E' bl o cs nb
  | [], bl, o, nb, hw, h => by simpa only [CR] using h
  | c :: cs, bl, o, nb, hw, h => by
    simp only [CR] at h ⊢
    simp only [wfAs] at hw
    obtain ⟨v, n1, n2, h1, h2, h3, h4⟩ := h
    exact ⟨v, n1, n2, h1, h2, XR_cut hO hE c hw.1 h3, CR_cut hO hE cs hw.2 h4⟩
end
section
variable {P : Program} {n : NE} {Y : Nat → Prop} {w0 : World} {F0 : Nat → Prop} {ρ : RHO} {f : Fr} {K : KS} {a : Act} {w : World}
/-- Regions that came after, and what is not looked at any more, forgotten. -/
theorem Sim.cut [Wd] {K' : KS} {f' g : Fr} (hS : Sim n Y w0 F0 ρ f' K' a w) (h1 : Keeps K K') (h3 : n.E.sz ≤ K.length) (h4 : ∀ t, g t = .u ∨ (g t = f' t ∧ wfA K.length (g t)))
    (h5 : ∀ j cs, kg K j = some (.box cs) → wfAs K.length cs) : Sim n Y w0 F0 ρ g K a w := by
  have hO : ∀ b, OO K ρ Y b → OO K' ρ Y b := by
    rintro b (h | ⟨j, e, hj, hb⟩)
    · exact .inl h
    · exact .inr ⟨j, e, h1 j e hj, hb⟩
  have hE : ∀ j p, (EK K ρ).of j = some p → (EK K' ρ).of j = some p := fun j p hp => by
    simp only [EK] at hp ⊢
    obtain ⟨e, he, hp⟩ := Option.map_eq_some_iff.1 hp
    rw [h1 j e he, ← hp]; rfl
  refine ⟨hS.defers, hS.size, ⟨h3, fun j p hj hp => hS.keep.2 j p hj (hE j p hp)⟩, fun t => ?_, ⟨fun j e hj => ?_, fun j e hj => hS.sees.nd j e (h1 j e hj), fun j e b hj => hS.sees.lt j e b (h1 j e hj), fun j e k e' b hj hk => hS.sees.dj j e k e' b (h1 j e hj) (h1 k e' hk)⟩,
    hS.ext, fun j e b hj => hS.new j e b (h1 j e hj), hS.yl⟩
  · rcases h4 t with h | ⟨h, hw⟩
    · rw [h]; simp [XR]
    · have := hS.fr t
      rw [← h] at this
      exact XR_cut hO hE _ hw this
  · have hr := hS.sees.reg j e (h1 j e hj)
    cases hb : (ρ j).1 with
    | none => rw [hb] at hr; exact hr
    | some b =>
      rw [hb] at hr
      refine ⟨hr.1, ?_, hr.2.2⟩
      cases e with
      | box cs =>
        have hw := h5 j cs hj
        have := hr.2.1
        simp only [Ent.E, Ent.rows, Ent.n, RR] at this ⊢
        obtain ⟨n1, n2, q1, q2, q3, q4⟩ := this
        exact ⟨n1, n2, q1, q2, CR_cut hO hE cs hw q3, q4⟩
      | lst m rows => exact RR.mono rows (Same.weak hO) _ _ _ rfl (fun _ _ => rfl) hr.2.1
theorem Sim.wf [Wd] (hS : Sim n Y w0 F0 ρ f K a w) (t : Nat) : wfA K.length (f t) := XR_wf _ (hS.fr t)
theorem Sim.wfK [Wd] (hS : Sim n Y w0 F0 ρ f K a w) (j : Nat) (cs : List AV) (h : kg K j = some (.box cs)) : wfAs K.length cs := by
  have hr := hS.sees.reg j _ h
  cases hb : (ρ j).1 with
  | none => rw [hb] at hr; have := hr.1; simp [Ent.rows] at this
  | some b =>
    rw [hb] at hr
    have := hr.2.1
    simp only [Ent.E, Ent.rows, Ent.n, RR] at this
    obtain ⟨n1, n2, q1, q2, q3, q4⟩ := this
    exact CR_wf cs q3

/-- Operations that change nothing that was there, into slots of ds. -/
def calmB (ds : Nat → Bool) (o : Oper) : Bool := (pureOp o.op || growOp o.op) && match o.dst with | some d => ds d | none => true
theorem xseq_calm [Wd] {ds : Nat → Bool} {ops : Array Oper} : ∀ (l : List Oper) {f : Fr} {K : KS} {k : Fr → KS → Prop}, l.all (calmB ds) = true → xseq P ops l f K k → xseq P ops l f K (fun f' K' => k f' K' ∧ (∀ t, ds t = false → f' t = f t) ∧ Keeps K K')
  | [], f, K, k, _, h => ⟨h, fun _ _ => rfl, Keeps.refl K⟩
  | o :: l, f, K, k, hc, h => by
    simp only [List.all_cons, Bool.and_eq_true] at hc
    obtain ⟨hc, hl⟩ := hc
    simp only [calmB, Bool.and_eq_true, Bool.or_eq_true] at hc
    obtain ⟨hc, hd⟩ := hc
    have hcalm : calm P o.op = true := by simp only [calm, Bool.or_eq_true]; exact .inl hc
    have hst : isStore P o.op = false := by
      cases hs : isStore P o.op with
      | false => rfl
      | true => exfalso; cases ho : o.op <;> rw [ho] at hs hc <;> first | (cases hs; done) | (rcases hc with hc | hc <;> cases hc)
    have hut : ∀ v t, ds t = false → updO f o.dst v t = f t := fun v t ht => by
      unfold updO
      cases hq : o.dst with
      | none => rfl
      | some d =>
        simp only [hq] at hd
        have : t ≠ d := fun h => by subst h; rw [ht] at hd; cases hd
        simp [up, this]
    unfold xseq at h ⊢
    have h1 := xone_eq.1 h
    refine xone_eq.2 ?_
    cases hg : gd ops o f with
    | none => rw [hg] at h1; exact h1.elim
    | some b =>
      rw [hg] at h1
      cases b with
      | false => exact xseq_mono (xseq_calm l hl h1) fun f' K' ⟨q1, q2, q3⟩ => ⟨q1, fun t ht => (q2 t ht).trans (hut _ t ht), q3⟩
      | true =>
        refine xopP_rel hcalm h1 fun v K' hr hk => xseq_mono (xseq_calm l hl hk) fun f' K'' ⟨q1, q2, q3⟩ => ⟨q1, fun t ht => (q2 t ht).trans (hut _ t ht), ?_⟩
        have hK : Keeps K K' := by
          rcases hr with ⟨_, rfl⟩ | ⟨_, hr⟩ | ⟨hr, _⟩
          · exact Keeps.refl _
          · exact hr
          · rw [hst] at hr; cases hr
        exact fun j e hj => q3 j e (hK j e hj)

/-! ### normal states -/
theorem frl_map (f : Fr) (π : List Nat) : ∀ l, frl f π l = l.map fun t => (t, Am.ren π (f t))
  | [] => rfl
  | t :: l => by simp [frl, frl_map f π l]
theorem onorm1_ok [Wd] {β : Type} {r : β} {z : Nat} : ∀ (l : List Pt) {f : Fr} {K : KS} {π : List Nat} {k : Fr → KS → List Nat → Option β} {lk}, onorm1 l f K π k lk = some r → ∃ f' K' π', Wk z f K f' K' ∧ k f' K' π' = some r
  | [], f, K, π, k, _, h => ⟨f, K, π, Wk.refl z f K, h⟩
  | .r i :: l, f, K, π, k, _, h => onorm1_ok l (show onorm1 l f K (π ++ [i]) k () = some r from h)
  | .s t n :: l, f, K, π, k, _, h => by
    unfold onorm1 at h
    split at h
    · exact onorm1_ok l h
    · exact onorm1_ok l h
    · rename_i ht
      obtain ⟨f', K', π', h1, h2⟩ := onorm1_ok l h
      exact ⟨f', K', π', (Wk.nil t n ht).trans h1, h2⟩
    · cases h
  | .c q o n :: l, f, K, π, k, _, h => by
    unfold onorm1 at h
    split at h
    · split at h
      · split at h
        · exact onorm1_ok l h
        · exact onorm1_ok l h
        · cases h
      · cases h
    · cases h
theorem pfx_take : ∀ {z π : List Nat}, pfx z π = true → π.take z.length = z
  | [], π, _ => by simp
  | x :: z, [], h => by cases h
  | x :: z, y :: π, h => by
    simp only [pfx, Bool.and_eq_true] at h
    rw [List.length_cons, List.take_succ_cons, pfx_take h.2, Nat.eq_of_beq_eq_true h.1]
theorem onorm_ok [Wd] {β : Type} {r : β} {z sl : List Nat} {rg : List Pt} {f : Fr} {K : KS} {k : Fr → KS → Option β} {lk} (hz : z = List.range z.length) (h : onorm z sl rg f K k lk = some r) : ∃ f' K', Wk z.length f K f' K' ∧ k f' K' = some r := by
  unfold onorm at h
  obtain ⟨f1, K1, π, h1, h2⟩ := onorm1_ok (z := z.length) rg h
  obtain ⟨h3, h4⟩ := need_some h2
  have h5 : pfx z π = true ∧ oletK (kren K1 π) (fun K' => k (fren f1 π sl) K') () = some r := by
    unfold onz at h4
    split at h4
    · exact ⟨by cases π <;> rfl, h4⟩
    · exact need_some h4
  refine ⟨_, _, h1.trans (Wk.ren π sl (ndB_nodup h3) (by rw [pfx_take h5.1]; exact hz)), ?_⟩
  rw [← frl_map]
  exact h5.2

/-! ### results -/
theorem oress_ok [Wd] (hS : Sim n Y w0 F0 ρ f K a w) : ∀ {rs : List ResultVar} {xs : List AV}, oress f K P rs = some xs →
    ∃ vs : List Value, (rs.mapM (resOf a.tmps)).run P w = .ok vs w ∧ XRs w (OO K ρ Y) (EK K ρ) xs vs [] ∧ vs.length = rs.length
  | [], xs, h => by
    simp [oress] at h; subst h
    exact ⟨[], by simp, by simp [XRs], rfl⟩
  | .tmp t :: rs, xs, h => by
    simp only [oress] at h
    obtain ⟨ys, h1, rfl⟩ := Option.map_eq_some_iff.1 h
    obtain ⟨vs, h2, h3, h4⟩ := oress_ok hS h1
    refine ⟨a.tmps.getD t undef :: vs, by simp [List.mapM_cons, resOf, h2], ?_, by simp [h4]⟩
    simp only [XRs]
    exact ⟨_, _, [], [], rfl, rfl, hS.fr t, h3⟩
  | .cell x t :: rs, xs, h => by
    simp only [oress] at h
    obtain ⟨v, h0, h⟩ := Option.bind_eq_some_iff.1 h
    obtain ⟨ys, h1, rfl⟩ := Option.map_eq_some_iff.1 h
    obtain ⟨vs, h2, h3, h4⟩ := oress_ok hS h1
    obtain ⟨y, av, g1, g2, g3⟩ := xload_ok (P := P) hS (oload_ok h0) (hS.fr x)
    injection g3 with g3; subst g3
    have hrun : (resOf a.tmps (.cell x t)).run P w = .ok y w := by
      generalize hv : a.tmps.getD x undef = z at g1
      simp only [resOf, hv]
      cases z <;> simp [Instr.loadAt, Instr.sureAddr, asAddr] at g1 ⊢
      rename_i ad
      cases ad <;> simp [Instr.loadAt, Instr.sureAddr, asAddr] at g1 ⊢
      exact g1
    refine ⟨y :: vs, by simp [List.mapM_cons, hrun, h2], ?_, by simp [h4]⟩
    simp only [XRs]
    exact ⟨_, _, [], [], rfl, rfl, g2, h3⟩
theorem ores_ok [Wd] (hS : Sim n Y w0 F0 ρ f K a w) {fn : Func} {xs : List AV} (h : oress f K P fn.results.toList = some xs) :
    ∃ v, (results fn a.tmps).run P w = .ok v w ∧ XR w (OO K ρ Y) (EK K ρ) (one1 xs) v [] := by
  obtain ⟨vs, h2, h3, h4⟩ := oress_ok (P := P) hS h
  rw [results_eq, Array.mapM_eq_mapM_toList]
  have hl := XRs_length h3
  match xs, vs, h3 with
  | [x], [v], h3 =>
    simp only [XRs] at h3
    obtain ⟨v', vs', n1, n2, q1, q2, q3, q4, _⟩ := h3
    obtain ⟨rfl, rfl⟩ := List.append_eq_nil_iff.1 q2.symm
    injection q1 with q1; subst q1
    exact ⟨v, by simp [h2], q3⟩
  | [], [], h3 => exact ⟨.tuple #[], by simp [h2], by simp only [one1, XR]; exact ⟨_, rfl, by simp [XRs]⟩⟩
  | x :: y :: xs, v :: u :: vs, h3 => exact ⟨.tuple (v :: u :: vs).toArray, by simp [h2], by simp only [one1, XR]; exact ⟨_, rfl, h3⟩⟩
  | [], v :: vs, h3 => simp at hl
  | [x], [], h3 => simp at hl
  | [x], v :: u :: vs, h3 => simp at hl
  | x :: y :: xs, [], h3 => simp at hl
  | x :: y :: xs, [v], h3 => simp at hl
end
end Go.Proofs.Ytcpelionmmnogaa.Am
