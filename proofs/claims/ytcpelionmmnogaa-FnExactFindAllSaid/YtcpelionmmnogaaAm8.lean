/- An abstract machine for the walks: every operation is right. No condition. -/
import Derived.Test.YtcpelionmmnogaaAm7
import Derived.Laws.BytesArg
import Derived.Laws.Cover3
namespace Go.Proofs.Ytcpelionmmnogaa.Am
open Go
set_option linter.unusedVariables false
set_option linter.unusedSimpArgs false
section
variable {P : Program} {n : NE} {Y : Nat → Prop} {w0 : World} {F0 : Nat → Prop} {ρ : RHO} {f : Fr} {K : KS} {a : Act} {w : World}

def ResOut (P : Program) (R : Value → World → Prop) : Result Next → Prop
  | .ok (.value v) w' => R v w'
  | .ok .skip w' => R undef w'
  | .ok (.enter g args) w' => Calls P g args w' fun e w'' => ∃ v, e = .returned v ∧ R v w''
  | _ => False
/-- What an operation must come to: a value, or nothing, or a call that returns one. -/
def OpOut (P : Program) (o : Oper) (a : Act) (w : World) (R : Value → World → Prop) : Prop := ResOut P R ((execOp a.eval o).run P w)
theorem ResOut.value {s : Sem Value} {R : Value → World → Prop} {v : Value} {w' : World} (h : s.run P w = .ok v w') (hr : R v w') : ResOut P R ((do pure (Next.value (← s)) : Sem Next).run P w) := by
  simp only [Sem.run_bind, h, Result.andThen_ok, Sem.run_pure]; exact hr
theorem ResOut.skip {s : Sem Unit} {R : Value → World → Prop} {w' : World} (h : s.run P w = .ok () w') (hr : R undef w') : ResOut P R ((do s; pure Next.skip : Sem Next).run P w) := by
  simp only [Sem.run_bind, h, Result.andThen_ok, Sem.run_pure]; exact hr
theorem OpOut.wp {o : Oper} {R : Value → World → Prop} {next : Act → World → Prop} {Q : Exit → Act → World → Prop} (h : OpOut P o a w R) (hn : ∀ v w', R v w' → next (a.put o.dst v) w') : o.wp P a w next Q := by
  unfold Oper.wp
  unfold OpOut at h
  generalize (execOp a.eval o).run P w = r at h ⊢
  unfold ResOut at h
  split at h
  · rename_i v w'; exact hn _ _ h
  · rename_i w'; exact hn _ _ h
  · rename_i g args w'
    simp only [Oper.upon]
    refine h.mono fun e w'' ⟨v, he, hr⟩ => ?_
    subst he
    exact hn _ _ hr
  · exact h.elim

theorem Sim.evs [Wd] (h : Sim n Y w0 F0 ρ f K a w) : ∀ (xs : List Operand), XRs w (OO K ρ Y) (EK K ρ) (xs.map (Am.ev f)) (xs.map a.eval) []
  | [] => by simp [XRs]
  | x :: xs => by
    simp only [List.map_cons, XRs]
    exact ⟨_, _, [], [], rfl, rfl, h.ev x, h.evs xs⟩

theorem call_ok [Wd] (hS : Sim n Y w0 F0 ρ f K a w) {g : FuncId} {vs : List AV} {xs : List Value} {k : AV → KS → Prop} (h : xcall P g K vs k ()) (hx : XRs w (OO K ρ Y) (EK K ρ) vs xs []) :
    (callFunc g xs.toArray).run P w = .ok (.enter g xs.toArray) w ∧ Calls P g xs.toArray w fun e w' => ∃ v, e = .returned v ∧ Out n Y w0 F0 f a k v w' := by
  rcases h with ⟨R, hP, hk⟩ | ⟨R, hA, hk⟩
  · refine ⟨hP.1 _ _, (hP.2 w xs (hS.yl.2 w hS.ext) (lends_ok hS.sees vs hx)).mono fun e w' ⟨v, x, nb, h1, h2, h3, h4, h5, h6⟩ => ?_⟩
    obtain ⟨ρ', s1, s2⟩ := hS.import h6 h3 h4 h5
    exact ⟨v, h1, _, _, ρ', s1, s2, hk x h2⟩
  · refine ⟨hA.1 _ _, (hA.2 w ρ Y xs (fun w1 h1 => hS.yl.2 w1 (hS.ext.trans h1 (fun _ h => h) (fun x hx ⟨j, e, q1, q2⟩ => by
        rcases hS.new j e x q1 q2 with q | q
        · exact q
        · omega))) (fun b hb => ?_) hS.sees hx).mono fun e w' ⟨v, r, K', ρ', h1, h2, h3, h4, h5, h6, h7, h8⟩ => ?_⟩
    · obtain ⟨q1, q2⟩ := hS.yl.1 b hb
      refine ⟨Nat.lt_of_lt_of_le q1 hS.ext.size, fun j e hj hbj => ?_⟩
      rcases hS.new j e b hj hbj with q | q
      · exact q2 q
      · omega
    · have hei : ∀ j p, j < (EK K ρ).sz → (EK K' ρ').of j = some p → (EK K ρ).of j = some p := fun j p hj hp => by
        simp only [EK] at hj hp ⊢
        cases hk' : kg K' j with
        | none => rw [hk'] at hp; cases hp
        | some e' =>
          obtain ⟨e0, q1, q2, q3, q4⟩ := h8 j e' hj hk'
          rw [hk'] at hp
          simp only [Option.map_some] at hp
          rw [q1, Option.map_some, ← hp, q2, q3, q4]
      have hsame : Same (OO K ρ Y) (EK K ρ) w (OO K' ρ' Y) (EK K' ρ') w' := by
        refine ⟨h6.size, fun b hb hlt => h6.block b hlt (fun ⟨j, e, q1, q2⟩ => hb (.inr ⟨j, e, q1, q2⟩)), fun b hb hlt hb' => ?_, by simpa [EK] using h3, hei, fun _ _ _ _ _ _ _ hw => h6.who _ _ hw⟩
        rcases hb' with hb' | ⟨j, e, q1, q2⟩
        · exact hb (.inl hb')
        · rcases h7 j e b q1 q2 with ⟨i, e', q3, q4⟩ | q3
          · exact hb (.inr ⟨i, e', q3, q4⟩)
          · omega
      refine ⟨v, h1, r, K', ρ', ⟨hS.defers, hS.size, hsame.keep hS.keep, fun t => XR.mono (f t) hsame _ _ (by simp) (hS.fr t), h5, ?_, ?_, hS.yl⟩, h4, hk r K' h2⟩
      · exact hS.ext.trans h6 (fun _ h => h) (fun x hx ⟨j, e, q1, q2⟩ => by
          rcases hS.new j e x q1 q2 with q | q
          · exact q
          · omega)
      · intro j e b hj hb
        rcases h7 j e b hj hb with ⟨i, e', q3, q4⟩ | q3
        · exact hS.new i e' b q3 q4
        · exact .inr (Nat.le_trans hS.ext.size q3)

theorem xmin_ok {O : Nat → Prop} {E : EI} {x y : AV} {k : AV → Prop} {l} {vx vy : Value} {T : Array TypeId} {ty : TypeId} (h : xmin x y k l) (hx : XR w O E x vx []) (hy : XR w O E y vy []) :
    ∃ v av, Yl P (Builtin.min_ T ty #[vx, vy]) v ∧ XR w O E av v [] ∧ k av := by
  unfold xmin at h
  split at h
  · simp only [XR] at hx hy
    obtain ⟨rfl, _⟩ := hx
    obtain ⟨rfl, _⟩ := hy
    exact ⟨_, _, fun w => by simp [Builtin.min_, Builtin.min2]; rfl, by simp [XR], h⟩
  · exact h.elim
theorem xmax_ok {O : Nat → Prop} {E : EI} {x y : AV} {k : AV → Prop} {l} {vx vy : Value} {T : Array TypeId} {ty : TypeId} (h : xmax x y k l) (hx : XR w O E x vx []) (hy : XR w O E y vy []) :
    ∃ v av, Yl P (Builtin.max_ T ty #[vx, vy]) v ∧ XR w O E av v [] ∧ k av := by
  unfold xmax at h
  split at h
  · simp only [XR] at hx hy
    obtain ⟨rfl, _⟩ := hx
    obtain ⟨rfl, _⟩ := hy
    exact ⟨_, _, fun w => by simp [Builtin.max_, Builtin.max2]; rfl, by simp [XR], h⟩
  · exact h.elim
theorem xconv_ok {O : Nat → Prop} {E : EI} {x : AV} {k : AV → Prop} {l} {vx : Value} {s t : TypeId} (h : xconv (ti P t) x k l) (hx : XR w O E x vx []) (hs : ∃ d, P.underlying s = some d) :
    ∃ v av, Yl P (convert s t vx) v ∧ XR w O E av v [] ∧ k av := by
  unfold xconv at h
  split at h
  · rename_i c d a ht
    have hu := ti_int ht
    obtain ⟨d', hd'⟩ := hs
    simp only [XR] at hx
    obtain ⟨rfl, _⟩ := hx
    exact ⟨_, _, fun w => by simp [convert, run_under hu, run_under hd', Conv.intToInt]; rfl, by simp [XR], h⟩
  · exact h.elim

theorem bytes_cells {O : Nat → Prop} {E : EI} : ∀ {rows : List (List AV)} {s : List UInt8} {bl off : Nat} {nb : List Nat}, RR w O E 1 bl off rows nb → bytesOf rows = some s →
    ∃ ns : List Int, ns.length = rows.length ∧ s = ns.map (fun n => UInt8.ofNat n.toNat) ∧ ∀ i, i < rows.length → w.cell? ⟨bl, off + i, none⟩ = some (.int .u8 (ns.getD i 0))
  | [], s, bl, off, nb, _, hs => by
    injection hs with hs
    exact ⟨[], rfl, hs.symm, fun i hi => by simp at hi⟩
  | r :: rs, s, bl, off, nb, h, hs => by
    obtain ⟨n1, n2, _, hr, hc, hrr⟩ := h
    simp only [bytesOf] at hs
    split at hs
    · rename_i x xs h1 h2
      injection hs with hs
      obtain ⟨ns, q1, q2, q3⟩ := bytes_cells hrr h2
      unfold byteOf at h1
      split at h1
      · rename_i m
        injection h1 with h1
        simp only [CR, XR] at hc
        obtain ⟨v, m1, m2, ⟨hv, _⟩, _, ⟨rfl, _⟩, _⟩ := hc
        refine ⟨m :: ns, by simp [q1], by rw [← hs, q2, ← h1]; rfl, fun i hi => ?_⟩
        cases i with
        | zero => simpa using hv
        | succ i =>
          have := q3 i (by simpa using hi)
          rw [show off + (i + 1) = off + 1 + i by omega]
          simpa using this
      · cases h1
    · cases hs
theorem bsl_eq {s : TypeId} (h : bsl P s = true) : ∃ e, P.underlying s = some (.slice e) ∧ P.underlying e = some (.int .u8) := by
  unfold bsl at h
  split at h
  · rename_i e m hs
    split at h
    · rename_i he
      exact ⟨e, (ti_sl hs).1, ti_int he⟩
    · cases h
  · cases h
theorem xbstr_ok [Wd] (hS : Sim n Y w0 F0 ρ f K a w) {x : AV} {k : AV → Prop} {l} {vx : Value} {s t : TypeId} (h : xbstr K (ti P t) x k l) (hx : XR w (OO K ρ Y) (EK K ρ) x vx []) (hs : bsl P s = true) :
    ∃ v av, (convert s t vx).run P w = .ok v w ∧ XR w (OO K ρ Y) (EK K ρ) av v [] ∧ k av := by
  obtain ⟨e, hu, he⟩ := bsl_eq hs
  unfold xbstr at h
  split at h
  · rename_i j ht
    have hd := ti_str ht
    split at h
    · rename_i rows hj
      split at h
      · rename_i bs hbs
        obtain ⟨_, hlt, hnone, hsome⟩ := hx
        have hr := hS.sees.reg j _ hj
        cases hb : (ρ j).1 with
        | none =>
          rw [hb] at hr
          obtain ⟨hr0, _⟩ := hr
          have hr0' : rows = [] := hr0
          subst hr0'
          injection hbs with hbs
          subst hbs
          obtain ⟨q, rfl⟩ := hnone 1 0 (by simp [EK, hj, hb, Ent.n, Ent.rows])
          refine ⟨.string ⟨#[]⟩, _, ?_, ?_, h⟩
          · rw [run_convert_bytes_string w s t e _ 0 0 hu he hd]
            cases q with
            | none => simp [Conv.bytesToString]; rfl
            | some q =>
              have hl : (loadCells q 0).run P w = .ok (([] : List Int).map (Value.int .u8)).toArray w := by
                have := run_loadCells_list (P := P) w q [] (fun j v hj => by simp at hj)
                simpa using this
              rw [run_bytesToString w q 0 0 [] hl]
              rfl
          · simp [XR]
        | some bl =>
          rw [hb] at hr
          obtain ⟨_, hrr, _⟩ := hr
          obtain ⟨cap, rfl, _, _⟩ := hsome bl 1 rows.length (by simp [EK, hj, hb, Ent.n, Ent.rows])
          obtain ⟨ns, q1, q2, q3⟩ := bytes_cells (rows := rows) hrr hbs
          refine ⟨_, _, run_convert_bytes_arg w s e hu he bl 0 rows.length cap ns q1 q3 t hd, ?_, h⟩
          simp only [XR]
          rw [q2]
          exact ⟨rfl, trivial⟩
      · exact h.elim
    · exact h.elim
  · exact h.elim

theorem isNilC_eq {y : Operand} (h : isNilC y = true) : y = .const (.slice none 0 0) := by
  unfold isNilC at h
  split at h
  · rfl
  · cases h
theorem isSlT_eq {t : TypeId} (h : isSlT P t = true) : ∃ e, P.underlying t = some (.slice e) := by
  unfold isSlT at h
  split at h
  · rename_i e he; exact ⟨e, he⟩
  · cases h
theorem xisnil_ok {O : Nat → Prop} {E : EI} {op : BinOp} {x : AV} {k : AV → Prop} {l} {vx : Value} {t : TypeId} {y : Operand} {cx cy : Operand} (h : xisnil op x k l) (hx : XR w O E x vx []) (hn : isNilC y = true) (ht : isSlT P t = true) :
    ∃ v av, Yl P (do eqGuard op t cx cy vx (a.eval y); binOp op t vx (a.eval y)) v ∧ XR w O E av v [] ∧ k av := by
  obtain ⟨e, hu⟩ := isSlT_eq ht
  have hy := isNilC_eq hn
  subst hy
  unfold xisnil at h
  split at h
  · rename_i m rows
    simp only [XR] at hx
    obtain ⟨_, ad, cap, rfl, _, hr⟩ := hx
    refine ⟨.bool ad.isNone, .b ad.isNone, fun w => by simp [Act.eval, eqGuard_at_slice, binOp, run_equal_slice_nil w t e ad _ _ hu], by simp [XR], ?_⟩
    rcases hr with rfl | ⟨bl, off, rfl, _⟩
    · cases ad with
      | none => exact h.1 rfl
      | some ad => exact h.2
    · exact h.2
  · rename_i m rows
    simp only [XR] at hx
    obtain ⟨_, ad, cap, rfl, _, hr⟩ := hx
    refine ⟨.bool (!ad.isNone), .b (!ad.isNone), fun w => by simp [Act.eval, eqGuard_at_slice, binOp, run_equal_slice_nil w t e ad _ _ hu], by simp [XR], ?_⟩
    rcases hr with rfl | ⟨bl, off, rfl, _⟩
    · cases ad with
      | none => exact h.1 rfl
      | some ad => exact h.2
    · exact h.2
  · exact h.elim
theorem zipp [Wd] (hS : Sim n Y w0 F0 ρ f K a w) (ps : Array (Nat × Operand)) : (ps.toList.map fun p => (p.1, Am.ev f p.2)).map (·.1) = (ps.map fun (i, x) => (i, a.eval x)).toList.map (·.1) ∧
    ∀ (i : Nat) (p : Nat × AV) (q : Nat × Value), (ps.toList.map fun p => (p.1, Am.ev f p.2))[i]? = some p → (ps.map fun (i, x) => (i, a.eval x)).toList[i]? = some q → XR w (OO K ρ Y) (EK K ρ) p.2 q.2 [] := by
  refine ⟨by simp, fun i p q hp hq => ?_⟩
  rw [Array.toList_map, List.getElem?_map] at hq
  rw [List.getElem?_map] at hp
  cases h : ps.toList[i]? with
  | none => rw [h] at hp; cases hp
  | some r =>
    rw [h] at hp hq
    simp at hp hq
    subst hp hq
    exact hS.ev r.2

theorem xop_ok [Wd] (hS : Sim n Y w0 F0 ρ f K a w) {o : Oper} {k : AV → KS → Prop} {l} (h : xop P o.op f K k l) : OpOut P o a w (Out n Y w0 F0 f a k) := by
  obtain ⟨dst, op, type, pos, after, guard⟩ := o
  simp only at h
  unfold OpOut
  unfold xop at h
  simp only [execOp]
  have yl : ∀ {s : Sem Value} {kk : AV → Prop}, (∃ v av, Yl P s v ∧ XR w (OO K ρ Y) (EK K ρ) av v [] ∧ k av K) → ResOut P (Out n Y w0 F0 f a k) ((do pure (Next.value (← s)) : Sem Next).run P w) :=
    fun ⟨v, av, h1, h2, h3⟩ => ResOut.value (h1 w) ⟨av, K, ρ, hS, h2, h3⟩
  split at h
  case h_1 x _ => exact ⟨_, K, ρ, hS, hS.ev x, h⟩
  case h_2 x _ => exact ⟨_, K, ρ, hS, hS.ev x, h⟩
  case h_3 c x y _ =>
    obtain ⟨v, av, h1, h2, h3⟩ := xpick_ok (P := P) h (hS.ev c) (hS.ev x) (hS.ev y)
    have := h1 w
    simp only [Sem.run_bind, Sem.run_pure] at this ⊢
    generalize (asBool (a.eval c)).run P w = r at this ⊢
    cases r with
    | halt _ _ => cases this
    | ok b w' =>
      simp only [Result.andThen_ok] at this ⊢
      injection this with e1 e2
      subst e1 e2
      exact ⟨av, K, ρ, hS, h2, h3⟩
  case h_4 t _ => obtain ⟨y, w', h1, h2⟩ := xalloc_ok (P := P) hS h; exact ResOut.value h1 h2
  case h_5 t v _ => obtain ⟨y, w', h1, h2⟩ := xbox_ok (P := P) hS h (hS.ev v); exact ResOut.value h1 h2
  case h_6 t ps _ =>
    obtain ⟨z1, z2⟩ := zipp hS ps
    exact yl (kk := fun _ => True) (xbuild_ok h z1 z2)
  case h_7 t len ps _ =>
    obtain ⟨z1, z2⟩ := zipp hS ps
    obtain ⟨y, w', h1, h2⟩ := xbslice_ok (P := P) hS h z1 z2; exact ResOut.value h1 h2
  case h_8 t x _ => obtain ⟨v, av, h1, h2, h3⟩ := xload_ok hS h (hS.ev x); exact ResOut.value h1 ⟨av, K, ρ, hS, h2, h3⟩
  case h_9 t p v _ => obtain ⟨K', ρ', w', h1, h2, h3⟩ := xstoreX_ok (P := P) hS h (hS.ev p) (hS.ev v); exact ResOut.skip h1 ⟨.u, K', ρ', h2, by simp [XR], h3⟩
  case h_10 op t x y t' _ =>
    split at h
    · rename_i hn
      split at h
      · rename_i ht; exact yl (kk := fun _ => True) (xisnil_ok h (hS.ev x) hn ht)
      · exact h.elim
    · exact yl (kk := fun _ => True) (xbin_ok h (hS.ev x) (hS.ev y))
  case h_11 op t x _ => exact yl (kk := fun _ => True) (xun_ok h (hS.ev x))
  case h_12 s t x _ =>
    split at h
    · rename_i hb
      obtain ⟨v, av, h1, h2, h3⟩ := xbstr_ok hS h (hS.ev x) hb
      exact ResOut.value h1 ⟨av, K, ρ, hS, h2, h3⟩
    · split at h
      · rename_i ht
        exact yl (kk := fun _ => True) (xconv_ok h (hS.ev x) (Option.isSome_iff_exists.1 ht))
      · exact h.elim
  case h_13 g first caps _ =>
    split at h
    · rename_i hf
      have hf' : first.map a.eval = #[] := by simpa using hf
      refine ResOut.value (v := .func (.func g) #[] (caps.map a.eval)) (w' := w) (by simp [Instr.makeFunc, hf']) ⟨.clo g (caps.toList.map (Am.ev f)), K, ρ, hS, ?_, h⟩
      simp only [XR]
      exact ⟨trivial, _, rfl, by simpa using hS.evs caps.toList⟩
    · exact h.elim
  case h_14 t x i _ => exact yl (kk := fun _ => True) (xadd_ok hS h (hS.ev x))
  case h_15 t x i _ => exact yl (kk := fun _ => True) (xidx_ok hS h (hS.ev x) (hS.ev i))
  case h_16 x i _ => exact yl (kk := fun _ => True) (xtup_ok h (hS.ev x))
  case h_17 args at' _ =>
    split at h
    · rename_i x t _ h1 h2
      have e1 : args = #[x] := Array.toList_inj.1 h1
      subst e1
      have := yl (kk := fun _ => True) (xlen_ok (T := at') (ty := type) hS (t := t) (by rw [← Array.getElem?_toList, h2]; rfl) h (hS.ev x))
      simpa [resolve, invoke, builtin] using this
    · exact h.elim
  case h_18 args at' _ =>
    split at h
    · rename_i s x t tx _ h1 h2
      split at h
      · rename_i hn
        have e1 : args = #[s, x] := Array.toList_inj.1 h1
        subst e1
        obtain ⟨y, w', q1, q2⟩ := xappend_ok (P := P) (el := 0) (T := at') (ty := type) hS (t := t) (tx := tx) (by rw [← Array.getElem?_toList, h2]; rfl) (by rw [← Array.getElem?_toList, h2]; rfl) hn rfl (fun e m z hq => by rw [hq]; rfl) h (hS.ev s) (hS.ev x)
        have := ResOut.value q1 q2
        simpa [resolve, invoke, builtin] using this
      · exact h.elim
    · exact h.elim
  case h_19 args at' _ =>
    split at h
    · rename_i x y h1
      have e1 : args = #[x, y] := Array.toList_inj.1 h1
      subst e1
      have := yl (kk := fun _ => True) (xmin_ok (T := at') (ty := type) h (hS.ev x) (hS.ev y))
      simpa [resolve, invoke, builtin] using this
    · exact h.elim
  case h_20 args at' _ =>
    split at h
    · rename_i x y h1
      have e1 : args = #[x, y] := Array.toList_inj.1 h1
      subst e1
      have := yl (kk := fun _ => True) (xmax_ok (T := at') (ty := type) h (hS.ev x) (hS.ev y))
      simpa [resolve, invoke, builtin] using this
    · exact h.elim
  case h_21 g args at' _ =>
    have hg := hS.ev g
    unfold xwho at h
    split at h
    · rename_i g' caps hgv
      rw [hgv] at hg
      simp only [XR] at hg
      obtain ⟨_, vs, hv, hc⟩ := hg
      obtain ⟨q1, q2⟩ := call_ok hS h (XRs_append (hS.evs args.toList) hc)
      have e2 : (args.toList.map a.eval ++ vs.toList).toArray = args.map a.eval ++ vs := by
        apply Array.toList_inj.1; simp
      rw [e2] at q1 q2
      simp only [resolve, Deferred.ofValue, hv, Sem.run_bind, Sem.run_pure, Result.andThen_ok, invoke, Array.empty_append, q1]
      exact q2
    · exact h.elim
  case h_22 t l c _ => obtain ⟨y, w', h1, h2⟩ := xmake_ok (P := P) hS (fun e m z hq => by rw [hq]; rfl) h (hS.ev l) (hS.ev c); exact ResOut.value h1 h2
  case h_23 t x lo hi _ => exact yl (kk := fun _ => True) (xslc_ok hS h (hS.ev x))
  case h_24 t x i _ => exact yl (kk := fun _ => True) (xsix_ok h (hS.ev x) (hS.ev i))
  case h_25 => exact h.elim
end
end Go.Proofs.Ytcpelionmmnogaa.Am
