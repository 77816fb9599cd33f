/- Proves FnExactEventNameSaid: the law FnExactEventName holds at every call. No conditions beyond the row's own. -/
import Derived.Test.YtbbnecdpcblcfaaRows
import Derived.Test.YtbbnecdpcblcfaaPureFnExactEventName
import Derived.Test.YtbbnecdpcblcfaaEq
import Derived.Test.YtbbnecdpcblcfaaRd1
import Derived.Test.YtbbnecdpcblcfaaChecked
import Derived.WalkKit
import Derived.ProofKit
import Derived.OpenShut
import Derived.ShutString
import Derived.SizedLaws
import Derived.KernelRfl
namespace Go.Proofs.Ytbbnecdpcblcfaa.fnExactEventName
open Go Go.Proofs Go.Proofs.Ytbbnecdpcblcfaa Go.Proofs.Ytbbnecdpcblcfaa.Am Go.ChangeShapes Go.WideShapes Go.ChangeAt Go.RowKit
set_option linter.unusedVariables false
set_option linter.unusedSimpArgs false
set_option linter.defProp false
set_option maxRecDepth 100000
theorem own : ownKnob Try.prog.godebug = none := by kernel_rfl
theorem laid : laidOutB Try.prog = true := by kernel_rfl
theorem T_ok : T.ok = true := by kernel_rfl
theorem T_mixed : T.P.follows .mixedOrders = true := by kernel_rfl
theorem i64_of {n : Int} (h : inK .i64 n) : i64 n := h
theorem found (aKind : Int) (h1 : i64 aKind) : ∃ n, CP T n 3 [.i .i64 aKind] = some (.b true) := ⟨_, by
  rw [show CP T (0 + 3) 3 _ = _ from e_laws_FnExactEventName 0 _, pure_FnExactEventName _ h1]; rfl⟩
theorem lifted (os : Os) (started : os.Started) (H : Type) (enc : TypeId × Value → H) :
    ReturnsInHanded {} Try.checked os 3 .any (Rows.fnExactEventNameSpec.pre6 enc Try.prog Try.f3 Rows.fnExactEventNameRow.domain false) (Rows.fnExactEventNameSpec.post enc Try.prog Try.f3 false true false false) := by
  refine returnsInHanded_of_change_sized (C := Try.checked) own started (by kernel_rfl) Try.func3
    (ChangeSpec.witness6 (enc := enc) (C := Try.checked) false ⟨#[], #[.int .i64 0], []⟩ 8 (by kernel_rfl) (by kernel_rfl) (by kernel_rfl) (by kernel_rfl)) ?_
  intro W base args ds gs before hval0 hW hcnd hsz0 _
  have hval : ∀ (j : Nat) t v, Try.f3.params[j]? = some t → args[j]? = some v → Value.okWide Try.prog W .any base t v := hval0
  have hW' := hW
  obtain ⟨p, q, hA0, hV, rfl, hfz, hnd⟩ := hW
  have hA : DataW.TrodAll enc Try.prog W 0 (fun _ => true) true Try.f3.params.toList args.toList ds p := hA0
  rw [Try.params3] at hA hval
  obtain ⟨v1, vs1, d1, ds1, p1, q1, e1, rfl, rfl, k1, hA1⟩ := trodAll_cons hA
  obtain ⟨rfl, rfl, rfl⟩ := trodAll_nil hA1
  obtain ⟨rfl, rfl⟩ := trodVars_none hV
  have hargs : args = #[v1] := Array.toList_inj.1 e1
  subst hargs
  obtain ⟨x1, o1, X1⟩ := (Rv.int Try.underlying3).rd (hval 0 _ _ rfl rfl) k1
  obtain ⟨n, hcp⟩ := found x1 (i64_of o1)
  have hX : XRs W FF EN [.i .i64 x1] [v1] [] := (by simp only [XRs]; exact ⟨v1, _, [], [], rfl, rfl, X1, ⟨rfl, rfl⟩⟩)
  refine ((CP_ok T_ok T_mixed hcp).law hX).mono fun e W' ⟨he, bel⟩ => ?_
  subst he
  exact ⟨_, rfl, _, _, _, [], _, [], hW', trodAll_mk1 (shut_bool Try.underlying4 _), trodAll_mk1 (Below.trod laid (by kernel_rfl) (of_decide_eq_true (by kernel_rfl)) k1 bel (fun x hx => hW'.lt x (by simp [hx]))), rfl, bel.frame _, fun h => by cases h⟩
theorem over : Rows.fnExactEventNameRow.holds Try.pinned (OpenSpec.ofChange Rows.fnExactEventNameSpec) :=
  OpenClaim.holds_of_wide 3 Try.f3 rfl rfl rfl rfl rfl rfl rfl ⟨rfl, rfl, rfl, rfl, rfl⟩ rfl rfl rfl rfl rfl (by kernel_rfl) Try.func3 (by kernel_rfl)
    (of_decide_eq_true (by kernel_rfl)) (by unfold Func.isWrapper; first | (rw [if_pos (by decide +kernel)]; kernel_rfl) | (rw [if_neg (by decide +kernel)]; exact ⟨rfl, rfl⟩))
    (fun os started H enc _ => lifted os started H enc)
theorem proved : Rows.FnExactEventNameSaid := over
#print axioms proved
end Go.Proofs.Ytbbnecdpcblcfaa.fnExactEventName
namespace Go.Proofs.Ytbbnecdpcblcfaa
/-- The row, under a short name, for the claim. -/
theorem fnExactEventName_holds : Rows.FnExactEventNameSaid := fnExactEventName.proved
end Go.Proofs.Ytbbnecdpcblcfaa
