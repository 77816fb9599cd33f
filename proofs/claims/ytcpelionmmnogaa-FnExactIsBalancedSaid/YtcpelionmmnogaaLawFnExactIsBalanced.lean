/- Proves FnExactIsBalancedSaid: the law FnExactIsBalanced holds at every call. No conditions beyond the row's own. -/
import Derived.Test.YtcpelionmmnogaaRows
import Derived.Test.YtcpelionmmnogaaPureFnExactIsBalanced
import Derived.Test.YtcpelionmmnogaaEq
import Derived.Test.YtcpelionmmnogaaRd1
import Derived.Test.YtcpelionmmnogaaZt
import Derived.Test.YtcpelionmmnogaaChecked
import Derived.WalkKit
import Derived.ProofKit
import Derived.OpenShut
import Derived.ShutString
import Derived.SizedLaws
import Derived.KernelRfl
namespace Go.Proofs.Ytcpelionmmnogaa.fnExactIsBalanced
open Go Go.Proofs Go.Proofs.Ytcpelionmmnogaa Go.Proofs.Ytcpelionmmnogaa.Am Go.ChangeShapes Go.WideShapes Go.ChangeAt Go.RowKit
set_option linter.unusedVariables false
set_option linter.unusedSimpArgs false
set_option linter.defProp false
set_option maxRecDepth 100000
theorem own : ownKnob Try.prog.godebug = none := by kernel_rfl
theorem laid : laidOutB Try.prog = true := by kernel_rfl
theorem T_ok : T.ok = true := by kernel_rfl
theorem T_mixed : T.P.follows .mixedOrders = true := by kernel_rfl
theorem i64_of {n : Int} (h : inK .i64 n) : i64 n := h
theorem rd3 : Rd Try.prog 3 c_i64 i64 := (Rd.int Try.underlying3).map (fun x => x) (fun _ => rfl) (fun _ h => i64_of h)
theorem rd76 : Rd Try.prog 76 cThing okThing := (Rd.struct (ts := [(3, 1), (3, 1), (3, 1), (3, 1), (3, 1)]) Try.underlying76 (by kernel_rfl) (by kernel_rfl) (Rf.cons rd3 (Rf.cons rd3 (Rf.cons rd3 (Rf.cons rd3 (Rf.cons rd3 (Rf.nil _))))))).map (fun x => ⟨x.1, x.2.1, x.2.2.1, x.2.2.2.1, x.2.2.2.2.1⟩) (fun _ => rfl) (fun _ h => ⟨h.1, h.2.1, h.2.2.1, h.2.2.2.1, h.2.2.2.2.1⟩)
theorem rd78 : Rd Try.prog 78 cFind okFind := (Rd.struct (ts := [(76, 5), (3, 1), (3, 1), (3, 1)]) Try.underlying78 (by kernel_rfl) (by kernel_rfl) (Rf.cons rd76 (Rf.cons rd3 (Rf.cons rd3 (Rf.cons rd3 (Rf.nil _)))))).map (fun x => ⟨x.1, x.2.1, x.2.2.1, x.2.2.2.1⟩) (fun _ => rfl) (fun _ h => ⟨h.1, h.2.1, h.2.2.1, h.2.2.2.1⟩)
theorem rd22 : Rd Try.prog 22 (fun xs : List Find => [.imm 8 (xs.map cFind)]) (okL okFind) := Rd.slice (m := 8) Try.underlying22 (by kernel_rfl) (by decide) rd78 (fun _ => rfl)
theorem rd82 : Rd Try.prog 82 cMark okMark := (Rd.struct (ts := [(3, 1), (3, 1)]) Try.underlying82 (by kernel_rfl) (by kernel_rfl) (Rf.cons rd3 (Rf.cons rd3 (Rf.nil _)))).map (fun x => ⟨x.1, x.2.1⟩) (fun _ => rfl) (fun _ h => ⟨h.1, h.2.1⟩)
theorem rd23 : Rd Try.prog 23 (fun xs : List Mark => [.imm 2 (xs.map cMark)]) (okL okMark) := Rd.slice (m := 2) Try.underlying23 (by kernel_rfl) (by decide) rd82 (fun _ => rfl)
theorem rd127 : Rd Try.prog 127 cSecret okSecret := (Rd.struct (ts := [(3, 1), (23, 1), (3, 1)]) Try.underlying127 (by kernel_rfl) (by kernel_rfl) (Rf.cons rd3 (Rf.cons rd23 (Rf.cons rd3 (Rf.nil _))))).map (fun x => ⟨x.1, x.2.1, x.2.2.1⟩) (fun _ => rfl) (fun _ h => ⟨h.1, h.2.1, h.2.2.1⟩)
theorem rd39 : Rd Try.prog 39 (fun xs : List Secret => [.imm 3 (xs.map cSecret)]) (okL okSecret) := Rd.slice (m := 3) Try.underlying39 (by kernel_rfl) (by decide) rd127 (fun _ => rfl)
theorem rd132 : Rd Try.prog 132 cSlot okSlot := (Rd.struct (ts := [(3, 1), (3, 1), (3, 1)]) Try.underlying132 (by kernel_rfl) (by kernel_rfl) (Rf.cons rd3 (Rf.cons rd3 (Rf.cons rd3 (Rf.nil _))))).map (fun x => ⟨x.1, x.2.1, x.2.2.1⟩) (fun _ => rfl) (fun _ h => ⟨h.1, h.2.1, h.2.2.1⟩)
theorem rd40 : Rd Try.prog 40 (fun xs : List Slot => [.imm 3 (xs.map cSlot)]) (okL okSlot) := Rd.slice (m := 3) Try.underlying40 (by kernel_rfl) (by decide) rd132 (fun _ => rfl)
theorem rd134 : Rd Try.prog 134 cClaim okClaim := (Rd.struct (ts := [(3, 1), (3, 1), (3, 1), (3, 1), (3, 1)]) Try.underlying134 (by kernel_rfl) (by kernel_rfl) (Rf.cons rd3 (Rf.cons rd3 (Rf.cons rd3 (Rf.cons rd3 (Rf.cons rd3 (Rf.nil _))))))).map (fun x => ⟨x.1, x.2.1, x.2.2.1, x.2.2.2.1, x.2.2.2.2.1⟩) (fun _ => rfl) (fun _ h => ⟨h.1, h.2.1, h.2.2.1, h.2.2.2.1, h.2.2.2.2.1⟩)
theorem rd41 : Rd Try.prog 41 (fun xs : List Claim => [.imm 5 (xs.map cClaim)]) (okL okClaim) := Rd.slice (m := 5) Try.underlying41 (by kernel_rfl) (by decide) rd134 (fun _ => rfl)
theorem rd136 : Rd Try.prog 136 cTrial okTrial := (Rd.struct (ts := [(3, 1), (3, 1), (3, 1), (3, 1)]) Try.underlying136 (by kernel_rfl) (by kernel_rfl) (Rf.cons rd3 (Rf.cons rd3 (Rf.cons rd3 (Rf.cons rd3 (Rf.nil _)))))).map (fun x => ⟨x.1, x.2.1, x.2.2.1, x.2.2.2.1⟩) (fun _ => rfl) (fun _ h => ⟨h.1, h.2.1, h.2.2.1, h.2.2.2.1⟩)
theorem rd42 : Rd Try.prog 42 (fun xs : List Trial => [.imm 4 (xs.map cTrial)]) (okL okTrial) := Rd.slice (m := 4) Try.underlying42 (by kernel_rfl) (by decide) rd136 (fun _ => rfl)
theorem rd138 : Rd Try.prog 138 cHand okHand := (Rd.struct (ts := [(3, 1), (3, 1), (3, 1), (3, 1), (3, 1)]) Try.underlying138 (by kernel_rfl) (by kernel_rfl) (Rf.cons rd3 (Rf.cons rd3 (Rf.cons rd3 (Rf.cons rd3 (Rf.cons rd3 (Rf.nil _))))))).map (fun x => ⟨x.1, x.2.1, x.2.2.1, x.2.2.2.1, x.2.2.2.2.1⟩) (fun _ => rfl) (fun _ h => ⟨h.1, h.2.1, h.2.2.1, h.2.2.2.1, h.2.2.2.2.1⟩)
theorem rd43 : Rd Try.prog 43 (fun xs : List Hand => [.imm 5 (xs.map cHand)]) (okL okHand) := Rd.slice (m := 5) Try.underlying43 (by kernel_rfl) (by decide) rd138 (fun _ => rfl)
theorem rd140 : Rd Try.prog 140 cEntry okEntry := (Rd.struct (ts := [(3, 1), (3, 1), (3, 1), (3, 1)]) Try.underlying140 (by kernel_rfl) (by kernel_rfl) (Rf.cons rd3 (Rf.cons rd3 (Rf.cons rd3 (Rf.cons rd3 (Rf.nil _)))))).map (fun x => ⟨x.1, x.2.1, x.2.2.1, x.2.2.2.1⟩) (fun _ => rfl) (fun _ h => ⟨h.1, h.2.1, h.2.2.1, h.2.2.2.1⟩)
theorem rd44 : Rd Try.prog 44 (fun xs : List Entry => [.imm 4 (xs.map cEntry)]) (okL okEntry) := Rd.slice (m := 4) Try.underlying44 (by kernel_rfl) (by decide) rd140 (fun _ => rfl)
theorem rd46 : Rd Try.prog 46 cHouse okHouse := (Rd.struct (ts := [(3, 1), (22, 1), (39, 1), (40, 1), (41, 1), (42, 1), (43, 1), (44, 1), (3, 1)]) Try.underlying46 (by kernel_rfl) (by kernel_rfl) (Rf.cons rd3 (Rf.cons rd22 (Rf.cons rd39 (Rf.cons rd40 (Rf.cons rd41 (Rf.cons rd42 (Rf.cons rd43 (Rf.cons rd44 (Rf.cons rd3 (Rf.nil _))))))))))).map (fun x => ⟨x.1, x.2.1, x.2.2.1, x.2.2.2.1, x.2.2.2.2.1, x.2.2.2.2.2.1, x.2.2.2.2.2.2.1, x.2.2.2.2.2.2.2.1, x.2.2.2.2.2.2.2.2.1⟩) (fun _ => rfl) (fun _ h => ⟨h.1, h.2.1, h.2.2.1, h.2.2.2.1, h.2.2.2.2.1, h.2.2.2.2.2.1, h.2.2.2.2.2.2.1, h.2.2.2.2.2.2.2.1, h.2.2.2.2.2.2.2.2.1⟩)
theorem found (aH : House) (h1 : okHouse aH) : ∃ n, CP T n 9 [.agg (cHouse aH)] = some (.b true) := ⟨_, by
  simp only [e_cHouse]
  rw [show CP T (0 + 8) 9 _ = _ from e_laws_FnExactIsBalanced 0 _ _, pure_FnExactIsBalanced _ h1]; rfl⟩
theorem lifted (os : Os) (started : os.Started) (H : Type) (enc : TypeId × Value → H) :
    ReturnsInHanded {} Try.checked os 9 .any (Rows.fnExactIsBalancedSpec.pre6 enc Try.prog Try.f9 Rows.fnExactIsBalancedRow.domain false) (Rows.fnExactIsBalancedSpec.post enc Try.prog Try.f9 false true false false) := by
  refine returnsInHanded_of_change_sized (C := Try.checked) own started (by kernel_rfl) Try.func9
    (ChangeSpec.witness6 (enc := enc) (C := Try.checked) false ⟨#[], #[.agg #[.int .i64 0, .slice none 0 0, .slice none 0 0, .slice none 0 0, .slice none 0 0, .slice none 0 0, .slice none 0 0, .slice none 0 0, .int .i64 0]], []⟩ 8 (by kernel_rfl) (by kernel_rfl) (by kernel_rfl) (by kernel_rfl)) ?_
  intro W base args ds gs before hval0 hW hcnd hsz0 _
  have hval : ∀ (j : Nat) t v, Try.f9.params[j]? = some t → args[j]? = some v → Value.okWide Try.prog W .any base t v := hval0
  have hW' := hW
  obtain ⟨p, q, hA0, hV, rfl, hfz, hnd⟩ := hW
  have hA : DataW.TrodAll enc Try.prog W 0 (fun _ => true) true Try.f9.params.toList args.toList ds p := hA0
  rw [Try.params9] at hA hval
  obtain ⟨v1, vs1, d1, ds1, p1, q1, e1, rfl, rfl, k1, hA1⟩ := trodAll_cons hA
  obtain ⟨rfl, rfl, rfl⟩ := trodAll_nil hA1
  obtain ⟨rfl, rfl⟩ := trodVars_none hV
  have hargs : args = #[v1] := Array.toList_inj.1 e1
  subst hargs
  obtain ⟨x1, o1, X1⟩ := (Rv.struct Try.underlying46 rd46).rd (hval 0 _ _ rfl rfl) k1
  obtain ⟨n, hcp⟩ := found x1 o1
  have hX : XRs W FF EN [.agg (cHouse x1)] [v1] [] := (by simp only [XRs]; exact ⟨v1, _, [], [], rfl, rfl, X1, ⟨rfl, rfl⟩⟩)
  refine ((CP_ok T_ok T_mixed T_xt T_st T_qt hcp).law trivial hX).mono fun e W' ⟨he, bel⟩ => ?_
  subst he
  exact ⟨_, rfl, _, _, _, [], _, [], hW', trodAll_mk1 (shut_bool Try.underlying4 _), trodAll_mk1 (Below.trod laid (by kernel_rfl) (of_decide_eq_true (by kernel_rfl)) k1 bel (fun x hx => hW'.lt x (by simp [hx]))), rfl, bel.frame _, fun h => by cases h⟩
theorem over : Rows.fnExactIsBalancedRow.holds Try.pinned (OpenSpec.ofChange Rows.fnExactIsBalancedSpec) :=
  OpenClaim.holds_of_wide 9 Try.f9 rfl rfl rfl rfl rfl rfl rfl ⟨rfl, rfl, rfl, rfl, rfl⟩ rfl rfl rfl rfl rfl (by kernel_rfl) Try.func9 (by kernel_rfl)
    (of_decide_eq_true (by kernel_rfl)) (by unfold Func.isWrapper; first | (rw [if_pos (by decide +kernel)]; kernel_rfl) | (rw [if_neg (by decide +kernel)]; exact ⟨rfl, rfl⟩))
    (fun os started H enc _ => lifted os started H enc)
theorem proved : Rows.FnExactIsBalancedSaid := over
#print axioms proved
end Go.Proofs.Ytcpelionmmnogaa.fnExactIsBalanced
namespace Go.Proofs.Ytcpelionmmnogaa
/-- The row, under a short name, for the claim. -/
theorem fnExactIsBalanced_holds : Rows.FnExactIsBalancedSaid := fnExactIsBalanced.proved
end Go.Proofs.Ytcpelionmmnogaa
