/- An abstract machine for the walks: regions in which a slice that stands in a row is given to a callee. No condition. -/
import Derived.Test.YtcpelionmmnogaaAm22
namespace Go.Proofs.Ytcpelionmmnogaa.Am
open Go
set_option linter.unusedVariables false
set_option linter.unusedSimpArgs false
section
variable {P : Program} {n : NE} {Y : Nat → Prop} {w0 : World} {F0 : Nat → Prop} {ρ : RHO} {f : Fr} {K : KS} {a : Act} {w : World}
/-- A callee that is given some of one's regions, as one that is given all. -/
theorem AC.sub [Wd] {g : FuncId} {js : List Nat} (hnd : js.Nodup) (hls : ∀ j ∈ js, isLst (kg K j) = true) {cs cs' : List AV} {r : AV} {es : KS}
    (hA : AC P g (subK K js) cs' (fun v K' => (v = r ∧ K'.take js.length = es) ∧ r.flat = true ∧ (∀ e ∈ es, isLst e = true) ∧ es.length = js.length)) (hsub : subAs js cs = some cs') : AC P g K cs (fun v K' => v = r ∧ K' = puts K js es) := by
  refine ⟨hA.1, fun w ρ Y vs hI hY hSe hX => ?_⟩
  let F1 : Nat → Prop := fun b => ∃ j e, kg K j = some e ∧ b ∈ fp ρ j
  have hS : Sim ⟨vs.length, EK K ρ⟩ Y w F1 ρ (argsAt cs) K { tmps := vs.toArray ++ Array.replicate (vs.length - vs.toArray.size) undef, defers := [] } w :=
    Sim.init (by rw [XRs_length hX]; exact Nat.le_refl _) hX ⟨Nat.le_refl _, fun _ _ _ h => h⟩ hSe (fun j e b hj hb => .inl ⟨j, e, hj, hb⟩) ⟨fun b hb => ⟨(hY b hb).1, fun ⟨j, e, hj, hb'⟩ => (hY b hb).2 j e hj hb'⟩, hI⟩
  obtain ⟨_, q2⟩ := hS.callA (P := P) hnd hls hA hsub hX
  refine q2.mono fun e w' ⟨v, ρ', h1, h2, hS', h4, h5, h6⟩ => ⟨v, r, _, ρ', h1, ⟨rfl, rfl⟩, by rw [puts_length]; exact Nat.le_refl _, h2 _ _, hS'.sees, hS'.ext, hS'.new, fun i e' hi hi' => ?_⟩
  have h3 := hS'.keep.2 i ((ρ' i).1, e'.n, e'.rows.length) hi (by simp [EK, hi'])
  simp only [EK] at h3
  obtain ⟨e, h4, h5⟩ := Option.map_eq_some_iff.1 h3
  injection h5 with h5 h6; injection h6 with h6 h7
  exact ⟨e, h4, h5.symm, h6.symm, h7.symm⟩

/-- The regions behind a call that was given the slice in cell o of row i of region j. -/
def nestK (K : KS) (j i o q m : Nat) (rows rs' : List (List AV)) : KS := K.set j (some (.lst q (rows.set i (putCells (rowOf rows i) o [.own m rs'])))) ++ [none]
theorem putCells_set (cs : List AV) (o : Nat) (v c : AV) (h : o < cs.length) : putCells (cs.set o v) o [c] = putCells cs o [c] := by
  unfold putCells
  rw [List.take_set_of_le (Nat.le_refl _), List.drop_set_of_lt (by simp)]
theorem set_last {α : Type} : ∀ (l : List α) (x y : α), (l ++ [x]).set l.length y = l ++ [y]
  | [], _, _ => rfl
  | z :: l, x, y => by simp [set_last l x y]
theorem nest_store {t : TK} (ht : t = .one) {j i o q m m' : Nat} {rows rs rs' : List (List AV)} (hj : kg K j = some (.lst q rows)) (hi : i < rows.length) (ho : o < (rowOf rows i).length) {k : KS → Prop} (hk : k (nestK K j i o q m' rows rs')) :
    xstoreX false [] ((outK K j i o q m rows rs).set K.length (some (.lst m' rs'))) t (.ptr j i o) (.sl K.length) k () := by
  subst ht
  have hjl := kg_lt hj
  have hjn : j ≠ K.length := by omega
  have hlen : (outK K j i o q m rows rs).length = K.length + 1 := by simp [outK]
  let rowsH := rows.set i ((rowOf rows i).set o .u)
  have hkj : kg (outK K j i o q m rows rs) j = some (.lst q rowsH) := by
    show kg (K.set j _ ++ [_]) j = _
    rw [kg_push, List.length_set, if_neg hjn, kg_set _ _ _ _ hjl, if_pos rfl]
  have hkj2 : kg ((outK K j i o q m rows rs).set K.length (some (.lst m' rs'))) j = some (.lst q rowsH) := by rw [kg_set _ _ _ _ (by omega), if_neg hjn]; exact hkj
  have hkn2 : kg ((outK K j i o q m rows rs).set K.length (some (.lst m' rs'))) K.length = some (.lst m' rs') := by rw [kg_set _ _ _ _ (by omega), if_pos rfl]
  have hrow : rowOf rowsH i = (rowOf rows i).set o .u := by simp [rowsH, rowOf, List.getD_eq_getElem?_getD, hi]
  unfold xstoreX
  simp only [hkj2]
  rw [if_neg (by simp [cellsV, clq, AV.closed]), if_pos trivial]
  unfold xstoreA
  rw [if_pos (by simp [rowsH]; exact hi)]
  have hab : absorb ((outK K j i o q m rows rs).set K.length (some (.lst m' rs'))) (cellsV (.sl K.length)) = some (((outK K j i o q m rows rs).set K.length (some (.lst m' rs'))).set K.length none, [.own m' rs']) := by
    simp only [cellsV, absorb, hkn2]
    rfl
  rw [hab]
  have hset : (((outK K j i o q m rows rs).set K.length (some (.lst m' rs'))).set K.length none) = K.set j (some (.lst q rowsH)) ++ [none] := by
    rw [List.set_set]
    have h0 := set_last (K.set j (some (.lst q rowsH))) (some (.lst m rs)) none
    rw [List.length_set] at h0
    exact h0
  have hkj3 : kg (K.set j (some (.lst q rowsH)) ++ [none]) j = some (.lst q rowsH) := by
    rw [kg_push, List.length_set, if_neg hjn, kg_set _ _ _ _ hjl, if_pos rfl]
  simp only [hset]
  rw [if_pos ⟨by rw [hkj3]; rfl, rfl, by rw [hrow, List.length_set]; exact ho⟩]
  show k _
  have hnz : nz [] [AV.own m' rs'] = [.own m' rs'] := rfl
  rw [hnz, hrow, putCells_set _ _ _ _ ho]
  have e1 : rowsH.set i (putCells (rowOf rows i) o [.own m' rs']) = rows.set i (putCells (rowOf rows i) o [.own m' rs']) := by simp [rowsH]
  rw [e1, List.set_append_left _ _ (by simpa using hjl), List.set_set]
  exact hk

/-- The operations one after the other; behind as many as us has, a slice in a row is loaded, and given to a callee. -/
def xopsN [Wd] (P : Program) (ops : Array Oper) : (us : List Nat) → (l : List Oper) → (f : Fr) → (K : KS) → (k : Fr → KS → Prop) → Prop
  | _ :: us, o :: r, f, K, k => o.guard = none ∧ xop P o.op f K (fun v K' => xset o.dst v f (fun f => xopsN P ops us r f K' k) ()) ()
  | [], o1 :: o2 :: o3 :: r, f, K, k => ∃ (d e : Nat) (t : TypeId) (p x : Operand) (g : FuncId) (ts : Array TypeId) (j i o q m m' : Nat) (rows rs rs' : List (List AV)) (rv : AV),
      (o1.dst = some d ∧ o1.op = .load t p ∧ o1.guard = none) ∧ (o2.dst = some e ∧ o2.op = .move x ∧ o2.guard = none) ∧ (o3.op = .call ⟨.value (.func g), #[.tmp d, .tmp e], ts⟩ ∧ o3.guard = none) ∧
      d ≠ e ∧ tk P t = .one ∧ Am.ev f p = .ptr j i o ∧ kg K j = some (.lst q rows) ∧ (rowOf rows i)[o]? = some (.own m rs) ∧ (Am.ev (up f d (.sl K.length)) x).scal = true ∧
      AC P g [some (.lst m rs)] [.sl 0, Am.ev (up f d (.sl K.length)) x] (fun v K' => (v = rv ∧ K'.take 1 = [some (.lst m' rs')]) ∧ rv.flat = true) ∧
      xset o3.dst rv (up (up f d (.sl K.length)) e (Am.ev (up f d (.sl K.length)) x)) (fun f => xops P ops r f (nestK K j i o q m' rows rs') k ()) ()
  | _, _, _, _, _ => False
theorem xopsN_ok [Wd] {ops : Array Oper} {Q : Exit → Act → World → Prop} {k : Fr → KS → Prop} (hQ : ∀ a w, Has n Y w0 F0 k a w → Q .normal a w) :
    ∀ (us is : List Nat) (l : List Oper), is.map (ops[·]?) = l.map some → (l.all (dstOK n.n)) = true → ∀ (ρ : RHO) (f : Fr) (K : KS) (a : Act) (w : World), Sim n Y w0 F0 ρ f K a w → xopsN P ops us l f K k → wpOps P ops Q is a w
  | [], [], [], _, _, _, _, _, _, _, _, h => by simp [xopsN] at h
  | _ :: _, [], [], _, _, _, _, _, _, _, _, h => by simp [xopsN] at h
  | _, [], _ :: _, hm, _, _, _, _, _, _, _, _ => by simp at hm
  | _, _ :: _, [], hm, _, _, _, _, _, _, _, _ => by simp at hm
  | u :: us, i :: is, o :: l, hm, hd, ρ, f, K, a, w, hS, h => by
    simp only [List.map_cons, List.cons.injEq] at hm
    simp only [List.all_cons, Bool.and_eq_true] at hd
    have hdst : ∀ d, o.dst = some d → d < n.n := fun d hd' => by simpa [dstOK, hd'] using hd.1
    simp only [wpOps, hm.1]
    obtain ⟨hg, h⟩ := h
    rw [if_pos (by simp [Region.wanted, hg])]
    refine .inl ((xop_ok hS h).wp fun v w' ⟨av, K', ρ', h1, h2, h3⟩ => ?_)
    obtain ⟨f', h4, h5⟩ := h1.putO hdst h2 h3
    exact xopsN_ok hQ us is l hm.2 hd.2 _ _ _ _ _ h4 h5
  | [], [i1], [o1], _, _, _, _, _, _, _, _, h => by simp [xopsN] at h
  | [], [i1, i2], [o1, o2], _, _, _, _, _, _, _, _, h => by simp [xopsN] at h
  | [], [_], _ :: _ :: _, hm, _, _, _, _, _, _, _, _ => by simp at hm
  | [], _ :: _ :: _, [_], hm, _, _, _, _, _, _, _, _ => by simp at hm
  | [], [_, _], _ :: _ :: _ :: _, hm, _, _, _, _, _, _, _, _ => by simp at hm
  | [], _ :: _ :: _ :: _, [_, _], hm, _, _, _, _, _, _, _, _ => by simp at hm
  | [], i1 :: i2 :: i3 :: is, o1 :: o2 :: o3 :: l, hm, hd, ρ, f, K, a, w, hS, h => by
    simp only [List.map_cons, List.cons.injEq] at hm
    simp only [List.all_cons, Bool.and_eq_true] at hd
    obtain ⟨m1, m2, m3, m4⟩ := hm
    obtain ⟨d1, d2, d3, d4⟩ := hd
    obtain ⟨d, e, t, p, x, g, ts, j, i, o, q, m, m', rows, rs, rs', rv, ⟨p1, p2, p3⟩, ⟨p4, p5, p6⟩, ⟨p7, p8⟩, hde, ht, hp, hj, hc, hcf, hA, hk⟩ := h
    have hdn : d < n.n := by simpa [dstOK, p1] using d1
    have hen : e < n.n := by simpa [dstOK, p4] using d2
    have hil : i < rows.length := by
      rcases Nat.lt_or_ge i rows.length with h | h
      · exact h
      · unfold rowOf at hc
        rw [List.getD_eq_getElem?_getD, List.getElem?_eq_none h] at hc
        simp at hc
    have hol : o < (rowOf rows i).length := by
      rcases Nat.lt_or_ge o (rowOf rows i).length with h | h
      · exact h
      · rw [List.getElem?_eq_none h] at hc; cases hc
    obtain ⟨v, hload, y, hy, ev1, ev2, hen2, hcall⟩ := hS.nest (P := P) (g := g) (k := fun K' => K' = nestK K j i o q m' rows rs') (l := ()) ht hp hj hc hdn hen hde hcf hA (nest_store (rs := rs) (m := m) ht hj hil hol rfl)
    simp only [wpOps, m1, m2, m3]
    rw [if_pos (by simp [Region.wanted, p3])]
    have s1 : OpOut P o1 a w (fun u w' => u = v ∧ w' = w) := by
      unfold OpOut
      simp only [execOp, p2]
      exact ResOut.value hload ⟨rfl, rfl⟩
    refine .inl (s1.wp fun u w' ⟨hu, hw⟩ => ?_)
    subst hu hw
    rw [p1, if_pos (by simp [Region.wanted, p6])]
    have s2 : OpOut P o2 (a.put (some d) u) w' (fun z w2 => z = y ∧ w2 = w') := by
      unfold OpOut
      simp only [execOp, p5, hy]
      exact ⟨rfl, rfl⟩
    refine .inl (s2.wp fun z w2 ⟨hz, hw⟩ => ?_)
    subst hz hw
    rw [p4, if_pos (by simp [Region.wanted, p8])]
    have s3 : OpOut P o3 ((a.put (some d) u).put (some e) z) w2 (fun u' w' => ∃ K' ρ', Sim n Y w0 F0 ρ' (up (up f d (.sl K.length)) e (Am.ev (up f d (.sl K.length)) x)) K' ((a.put (some d) u).put (some e) z) w' ∧ (∀ O E, XR w' O E rv u' []) ∧ K' = nestK K j i o q m' rows rs') := by
      unfold OpOut
      simp only [execOp, p7]
      have ea : (#[Operand.tmp d, Operand.tmp e] : Array Operand).map ((a.put (some d) u).put (some e) z).eval = #[u, z] := by simp [ev1, ev2]
      have eg : ((a.put (some d) u).put (some e) z).eval (.func g) = .func (.func g) #[] #[] := rfl
      simp only [resolve, eg, Deferred.ofValue, Sem.run_bind, Sem.run_pure, Result.andThen_ok, invoke, Array.empty_append, Array.append_empty, ea, hen2]
      exact hcall.mono fun en w' ⟨u', h1, h2, K', ρ', h3, h4⟩ => ⟨u', h1, K', ρ', h3, h2, h4⟩
    refine .inl (s3.wp fun u' w' ⟨K', ρ', q1, q2, q3⟩ => ?_)
    subst q3
    have hdst : ∀ d, o3.dst = some d → d < n.n := fun d hd' => by simpa [dstOK, hd'] using d3
    obtain ⟨f', h4, h5⟩ := q1.putO hdst (q2 _ _) hk
    exact xops_ok hQ is l m4 d4 _ _ _ _ _ h4 h5
end
end Go.Proofs.Ytcpelionmmnogaa.Am
