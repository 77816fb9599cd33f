/- Proves FnExactWorthOfSaid: the law FnExactWorthOf holds at every call. No conditions beyond the row's own. -/
import Derived.Test.YtomlnigcnkjelaaRows
import Derived.Test.YtomlnigcnkjelaaPureFnExactWorthOf
import Derived.Test.YtomlnigcnkjelaaEq
import Derived.Test.YtomlnigcnkjelaaRd1
import Derived.Test.YtomlnigcnkjelaaChecked
import Derived.WalkKit
import Derived.ProofKit
import Derived.OpenShut
import Derived.ShutString
import Derived.SizedLaws
import Derived.KernelRfl
namespace Go.Proofs.Ytomlnigcnkjelaa.fnExactWorthOf
open Go Go.Proofs Go.Proofs.Ytomlnigcnkjelaa Go.Proofs.Ytomlnigcnkjelaa.Am Go.ChangeShapes Go.WideShapes Go.ChangeAt Go.RowKit
set_option linter.unusedVariables false
set_option linter.unusedSimpArgs false
set_option linter.defProp false
set_option maxRecDepth 100000
theorem own : ownKnob Try.prog.godebug = none := by kernel_rfl
theorem laid : laidOutB Try.prog = true := by kernel_rfl
theorem T_ok : T.ok = true := by kernel_rfl
theorem T_mixed : T.P.follows .mixedOrders = true := by kernel_rfl
theorem i64_of {n : Int} (h : inK .i64 n) : i64 n := h
theorem rd3 : Rd Try.prog 3 c_i64 i64 := (Rd.int Try.underlying3).map (fun x => x) (fun _ => rfl) (fun _ h => i64_of h)
theorem rd58 : Rd Try.prog 58 cThing okThing := (Rd.struct (ts := [(3, 1), (3, 1), (3, 1), (3, 1), (3, 1)]) Try.underlying58 (by kernel_rfl) (by kernel_rfl) (Rf.cons rd3 (Rf.cons rd3 (Rf.cons rd3 (Rf.cons rd3 (Rf.cons rd3 (Rf.nil _))))))).map (fun x => ⟨x.1, x.2.1, x.2.2.1, x.2.2.2.1, x.2.2.2.2.1⟩) (fun _ => rfl) (fun _ h => ⟨h.1, h.2.1, h.2.2.1, h.2.2.2.1, h.2.2.2.2.1⟩)
theorem rd60 : Rd Try.prog 60 cFind okFind := (Rd.struct (ts := [(58, 5), (3, 1), (3, 1), (3, 1)]) Try.underlying60 (by kernel_rfl) (by kernel_rfl) (Rf.cons rd58 (Rf.cons rd3 (Rf.cons rd3 (Rf.cons rd3 (Rf.nil _)))))).map (fun x => ⟨x.1, x.2.1, x.2.2.1, x.2.2.2.1⟩) (fun _ => rfl) (fun _ h => ⟨h.1, h.2.1, h.2.2.1, h.2.2.2.1⟩)
theorem rd29 : Rd Try.prog 29 (fun xs : List Find => [.imm 8 (xs.map cFind)]) (okL okFind) := Rd.slice (m := 8) Try.underlying29 (by kernel_rfl) (by decide) rd60 (fun _ => rfl)
theorem found (aL : List Find) (h1 : (okL okFind) aL) : ∃ n, CP T n 5 [.imm 8 (aL.map cFind)] = some (.b true) := ⟨_, by
  rw [show CP T (0 + 5) 5 _ = _ from e_laws_FnExactWorthOf 0, pure_FnExactWorthOf _ h1]; rfl⟩
theorem lifted (os : Os) (started : os.Started) (H : Type) (enc : TypeId × Value → H) :
    ReturnsInHanded {} Try.checked os 5 .any (Rows.fnExactWorthOfSpec.pre6 enc Try.prog Try.f5 Rows.fnExactWorthOfRow.domain false) (Rows.fnExactWorthOfSpec.post enc Try.prog Try.f5 false true false false) := by
  refine returnsInHanded_of_change_sized (C := Try.checked) own started (by kernel_rfl) Try.func5
    (ChangeSpec.witness6 (enc := enc) (C := Try.checked) false ⟨#[], #[.slice none 0 0], []⟩ 8 (by kernel_rfl) (by kernel_rfl) (by kernel_rfl) (by kernel_rfl)) ?_
  intro W base args ds gs before hval0 hW hcnd hsz0 _
  have hval : ∀ (j : Nat) t v, Try.f5.params[j]? = some t → args[j]? = some v → Value.okWide Try.prog W .any base t v := hval0
  have hW' := hW
  obtain ⟨p, q, hA0, hV, rfl, hfz, hnd⟩ := hW
  have hA : DataW.TrodAll enc Try.prog W 0 (fun _ => true) true Try.f5.params.toList args.toList ds p := hA0
  rw [Try.params5] at hA hval
  obtain ⟨v1, vs1, d1, ds1, p1, q1, e1, rfl, rfl, k1, hA1⟩ := trodAll_cons hA
  obtain ⟨rfl, rfl, rfl⟩ := trodAll_nil hA1
  obtain ⟨rfl, rfl⟩ := trodVars_none hV
  have hargs : args = #[v1] := Array.toList_inj.1 e1
  subst hargs
  obtain ⟨x1, o1, X1⟩ := (Rv.slice Try.underlying29 rd29).rd (hval 0 _ _ rfl rfl) k1
  obtain ⟨n, hcp⟩ := found x1 o1
  have hX : XRs W FF EN [.imm 8 (x1.map cFind)] [v1] [] := (by simp only [XRs]; exact ⟨v1, _, [], [], rfl, rfl, X1, ⟨rfl, rfl⟩⟩)
  refine ((CP_ok T_ok T_mixed hcp).law hX).mono fun e W' ⟨he, bel⟩ => ?_
  subst he
  exact ⟨_, rfl, _, _, _, [], _, [], hW', trodAll_mk1 (shut_bool Try.underlying4 _), trodAll_mk1 (Below.trod laid (by kernel_rfl) (of_decide_eq_true (by kernel_rfl)) k1 bel (fun x hx => hW'.lt x (by simp [hx]))), rfl, bel.frame _, fun h => by cases h⟩
theorem over : Rows.fnExactWorthOfRow.holds Try.pinned (OpenSpec.ofChange Rows.fnExactWorthOfSpec) :=
  OpenClaim.holds_of_wide 5 Try.f5 rfl rfl rfl rfl rfl rfl rfl ⟨rfl, rfl, rfl, rfl, rfl⟩ rfl rfl rfl rfl rfl (by kernel_rfl) Try.func5 (by kernel_rfl)
    (of_decide_eq_true (by kernel_rfl)) (by unfold Func.isWrapper; first | (rw [if_pos (by decide +kernel)]; kernel_rfl) | (rw [if_neg (by decide +kernel)]; exact ⟨rfl, rfl⟩))
    (fun os started H enc _ => lifted os started H enc)
theorem proved : Rows.FnExactWorthOfSaid := over
#print axioms proved
end Go.Proofs.Ytomlnigcnkjelaa.fnExactWorthOf
namespace Go.Proofs.Ytomlnigcnkjelaa
/-- The row, under a short name, for the claim. -/
theorem fnExactWorthOf_holds : Rows.FnExactWorthOfSaid := fnExactWorthOf.proved
end Go.Proofs.Ytomlnigcnkjelaa
