/- An abstract machine for the walks: a pure operation may come first. No condition. -/
import Derived.Test.YtcpelionmmnogaaAm17
namespace Go.Proofs.Ytcpelionmmnogaa.Am
open Go
set_option linter.unusedVariables false
set_option linter.unusedSimpArgs false

def updO (f : Fr) (d : Option Tmp) (v : AV) : Fr := match d with | some d => up f d v | none => f
theorem xset_eq (d : Option Tmp) (v : AV) (f : Fr) (k : Fr → Prop) (l) : xset d v f k l = k (updO f d v) := by cases d <;> rfl
theorem up_self (f : Fr) (d : Nat) (v : AV) (h : f d = v) : up f d v = f := by funext t; unfold up; split <;> simp [*]
theorem up_comm (f : Fr) (d e : Nat) (v x : AV) (h : d ≠ e) : up (up f d v) e x = up (up f e x) d v := by
  funext t; unfold up
  by_cases h1 : t = e
  · subst h1; simp [Ne.symm h]
  · simp [h1]
def Agree (ops : Array Oper) (o : Oper) (f f' : Fr) : Prop := ∀ t ∈ o.looksAt ops, f' t = f t
theorem Agree.ev {ops : Array Oper} {o : Oper} {f f' : Fr} (h : Agree ops o f f') : ∀ x ∈ o.op.operands, Am.ev f x = Am.ev f' x := fun x hx => by
  cases x with
  | tmp t => exact (h t (List.mem_append_left _ (List.mem_filterMap.2 ⟨.tmp t, by simpa using hx, rfl⟩))).symm
  | const v => rfl
  | global g => rfl
  | func g => rfl
theorem xopP_congr [Wd] {P : Program} {o : Op} {f f' : Fr} {K : KS} {k : AV → KS → Prop} (h : ∀ x ∈ o.operands, Am.ev f x = Am.ev f' x) : xopP P o f K k () = xopP P o f' K k () := by
  unfold xopP
  split
  · rename_i x as ts
    have hx := h x (by simp [Op.operands, Call.operands])
    have ha : as.toList.map (Am.ev f) = as.toList.map (Am.ev f') := List.map_congr_left fun y hy => h y (by simp at hy; simp [Op.operands, Call.operands, hy])
    rw [hx, ha]
  · exact xop_congr h
theorem xopP_pure_eq [Wd] {P : Program} {o : Op} (hp : pureOp o = true) {f : Fr} {K : KS} {k : AV → KS → Prop} : xopP P o f K k () = xop P o f K k () := by
  unfold xopP
  split
  · cases hp
  · rfl
/-- What the guard of o says: carry it out, or not. -/
def gd (ops : Array Oper) (o : Oper) (f : Fr) : Option Bool :=
  match o.guard with
  | none => some true
  | some (j, want) => match (ops[j]?).bind (·.dst) with
    | some g => match f g with | .b x => some (x == want) | .tup [] => some false | _ => none
    | none => none
theorem xone_eq [Wd] {P : Program} {ops : Array Oper} {o : Oper} {f : Fr} {K : KS} {c : Fr → KS → Prop} : xone P ops o f K c ↔
    match gd ops o f with
    | some true => xopP P o.op f K (fun v K' => c (updO f o.dst v) K') ()
    | some false => c (updO f o.dst (.tup [])) K
    | none => False := by
  have e1 : ∀ f : Fr, (fun v K' => xset o.dst v f (fun f => c f K') ()) = (fun v K' => c (updO f o.dst v) K') := fun f => by funext v K'; exact xset_eq _ _ _ _ _
  have e2 : (fun f => xopP P o.op f K (fun v K' => xset o.dst v f (fun f => c f K') ()) ()) = (fun f => xopP P o.op f K (fun v K' => c (updO f o.dst v) K') ()) := by
    funext f; exact congrArg (fun q => xopP P o.op f K q ()) (e1 f)
  have e3 : (fun f => xset o.dst (.tup []) f (fun f => c f K) ()) = (fun f => c (updO f o.dst (.tup [])) K) := by funext f; exact xset_eq _ _ _ _ _
  unfold xone gd
  split
  · rename_i hg; rw [e1]; simp only [hg]
  · rename_i j want hg
    show xgd _ want f (fun f => xopP P o.op f K (fun v K' => xset o.dst v f (fun f => c f K') ()) ()) (fun f => xset o.dst (.tup []) f (fun f => c f K) ()) () ↔ _
    rw [show xgd ((ops[j]?).bind (·.dst)) want f (fun f => xopP P o.op f K (fun v K' => xset o.dst v f (fun f => c f K') ()) ()) (fun f => xset o.dst (.tup []) f (fun f => c f K) ()) () = xgd ((ops[j]?).bind (·.dst)) want f (fun f => xopP P o.op f K (fun v K' => c (updO f o.dst v) K') ()) (fun f => c (updO f o.dst (.tup [])) K) () from by
      have := congrArg (fun q => xgd ((ops[j]?).bind (·.dst)) want f q (fun f => xset o.dst (.tup []) f (fun f => c f K) ()) ()) e2
      exact this.trans (congrArg (fun q => xgd ((ops[j]?).bind (·.dst)) want f (fun f => xopP P o.op f K (fun v K' => c (updO f o.dst v) K') ()) q ()) e3)]
    unfold xgd
    split
    · rename_i g hj
      simp only [hg, hj]
      cases hx : f g with
      | b x =>
        have e1 : ∀ b, x = b → up f g (.b b) = f := fun b hb => up_self f g _ (by rw [hx, hb])
        unfold XBr
        cases x <;> cases want <;> simp <;> rw [e1 _ rfl]
      | tup vs => cases vs <;> exact Iff.rfl
      | _ => exact Iff.rfl
    · rename_i hj
      simp only [hg, hj]
theorem gd_agree {ops : Array Oper} {o : Oper} {f f' : Fr} (h : Agree ops o f f') : gd ops o f' = gd ops o f := by
  unfold gd
  split
  · rfl
  · rename_i j want hg
    cases hj : (ops[j]?).bind (·.dst) with
    | none => rfl
    | some g =>
      have := h g (List.mem_append_right _ (by rw [hg]; simp only; rw [hj]; simp))
      simp only [this]
/-- The pure operation o yields r, now and later. -/
def XV [Wd] (P : Program) (ops : Array Oper) (o : Oper) (r : AV) (f : Fr) (K : KS) : Prop :=
  ∀ (f' : Fr) (K' : KS) (c : Fr → KS → Prop), Agree ops o f f' → Stab o.op K K' → c (updO f' o.dst r) K' → xone P ops o f' K' c
theorem xone_pure [Wd] {P : Program} {ops : Array Oper} {o : Oper} (hp : pureOp o.op = true) {f : Fr} {K : KS} {c : Fr → KS → Prop} (h : xone P ops o f K c) : ∃ r, c (updO f o.dst r) K ∧ XV P ops o r f K := by
  have h1 := xone_eq.1 h
  cases hg : gd ops o f with
  | none => rw [hg] at h1; exact h1.elim
  | some b =>
    rw [hg] at h1
    cases b with
    | false => exact ⟨.tup [], h1, fun f' K' c' ha hs hc => xone_eq.2 (by rw [gd_agree ha, hg]; exact hc)⟩
    | true =>
      simp only at h1
      rw [xopP_pure_eq hp] at h1
      obtain ⟨v, h2, h3⟩ := xop_pure hp h1
      refine ⟨v, h2, fun f' K' c' ha hs hc => xone_eq.2 ?_⟩
      rw [gd_agree ha, hg]
      simp only
      rw [xopP_pure_eq hp, ← xop_congr ha.ev]
      exact h3 K' _ hs hc
theorem XV.agree [Wd] {P : Program} {ops : Array Oper} {o : Oper} {r : AV} {f f1 : Fr} {K K1 : KS} (h : XV P ops o r f K) (ha : Agree ops o f f1) (hs : ∀ K', Stab o.op K1 K' → Stab o.op K K') : XV P ops o r f1 K1 :=
  fun f' K' c ha' hs' hc => h f' K' c (fun t ht => (ha' t ht).trans (ha t ht)) (hs K' hs') hc
end Go.Proofs.Ytcpelionmmnogaa.Am
