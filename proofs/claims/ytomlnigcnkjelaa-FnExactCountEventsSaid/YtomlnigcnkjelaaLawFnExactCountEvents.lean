/- Proves FnExactCountEventsSaid: the law FnExactCountEvents holds at every call. No conditions beyond the row's own. -/
import Derived.Test.YtomlnigcnkjelaaRows
import Derived.Test.YtomlnigcnkjelaaPureFnExactCountEvents
import Derived.Test.YtomlnigcnkjelaaEq
import Derived.Test.YtomlnigcnkjelaaRd1
import Derived.Test.YtomlnigcnkjelaaChecked
import Derived.WalkKit
import Derived.ProofKit
import Derived.OpenShut
import Derived.ShutString
import Derived.SizedLaws
import Derived.KernelRfl
namespace Go.Proofs.Ytomlnigcnkjelaa.fnExactCountEvents
open Go Go.Proofs Go.Proofs.Ytomlnigcnkjelaa Go.Proofs.Ytomlnigcnkjelaa.Am Go.ChangeShapes Go.WideShapes Go.ChangeAt Go.RowKit
set_option linter.unusedVariables false
set_option linter.unusedSimpArgs false
set_option linter.defProp false
set_option maxRecDepth 100000
theorem own : ownKnob Try.prog.godebug = none := by kernel_rfl
theorem laid : laidOutB Try.prog = true := by kernel_rfl
theorem T_ok : T.ok = true := by kernel_rfl
theorem T_mixed : T.P.follows .mixedOrders = true := by kernel_rfl
theorem i64_of {n : Int} (h : inK .i64 n) : i64 n := h
theorem rd3 : Rd Try.prog 3 c_i64 i64 := (Rd.int Try.underlying3).map (fun x => x) (fun _ => rfl) (fun _ h => i64_of h)
theorem rd58 : Rd Try.prog 58 cThing okThing := (Rd.struct (ts := [(3, 1), (3, 1), (3, 1), (3, 1), (3, 1)]) Try.underlying58 (by kernel_rfl) (by kernel_rfl) (Rf.cons rd3 (Rf.cons rd3 (Rf.cons rd3 (Rf.cons rd3 (Rf.cons rd3 (Rf.nil _))))))).map (fun x => ⟨x.1, x.2.1, x.2.2.1, x.2.2.2.1, x.2.2.2.2.1⟩) (fun _ => rfl) (fun _ h => ⟨h.1, h.2.1, h.2.2.1, h.2.2.2.1, h.2.2.2.2.1⟩)
theorem rd60 : Rd Try.prog 60 cFind okFind := (Rd.struct (ts := [(58, 5), (3, 1), (3, 1), (3, 1)]) Try.underlying60 (by kernel_rfl) (by kernel_rfl) (Rf.cons rd58 (Rf.cons rd3 (Rf.cons rd3 (Rf.cons rd3 (Rf.nil _)))))).map (fun x => ⟨x.1, x.2.1, x.2.2.1, x.2.2.2.1⟩) (fun _ => rfl) (fun _ h => ⟨h.1, h.2.1, h.2.2.1, h.2.2.2.1⟩)
theorem rd96 : Rd Try.prog 96 cMark okMark := (Rd.struct (ts := [(3, 1), (3, 1)]) Try.underlying96 (by kernel_rfl) (by kernel_rfl) (Rf.cons rd3 (Rf.cons rd3 (Rf.nil _)))).map (fun x => ⟨x.1, x.2.1⟩) (fun _ => rfl) (fun _ h => ⟨h.1, h.2.1⟩)
theorem rd69 : Rd Try.prog 69 (fun xs : List Mark => [.imm 2 (xs.map cMark)]) (okL okMark) := Rd.slice (m := 2) Try.underlying69 (by kernel_rfl) (by decide) rd96 (fun _ => rfl)
theorem rd100 : Rd Try.prog 100 cBid okBid := (Rd.struct (ts := [(3, 1), (3, 1), (3, 1)]) Try.underlying100 (by kernel_rfl) (by kernel_rfl) (Rf.cons rd3 (Rf.cons rd3 (Rf.cons rd3 (Rf.nil _))))).map (fun x => ⟨x.1, x.2.1, x.2.2.1⟩) (fun _ => rfl) (fun _ h => ⟨h.1, h.2.1, h.2.2.1⟩)
theorem rd70 : Rd Try.prog 70 (fun xs : List Bid => [.imm 3 (xs.map cBid)]) (okL okBid) := Rd.slice (m := 3) Try.underlying70 (by kernel_rfl) (by decide) rd100 (fun _ => rfl)
theorem rd72 : Rd Try.prog 72 cEvent okEvent := (Rd.struct (ts := [(3, 1), (60, 8), (69, 1), (3, 1), (3, 1), (3, 1), (70, 1)]) Try.underlying72 (by kernel_rfl) (by kernel_rfl) (Rf.cons rd3 (Rf.cons rd60 (Rf.cons rd69 (Rf.cons rd3 (Rf.cons rd3 (Rf.cons rd3 (Rf.cons rd70 (Rf.nil _))))))))).map (fun x => ⟨x.1, x.2.1, x.2.2.1, x.2.2.2.1, x.2.2.2.2.1, x.2.2.2.2.2.1, x.2.2.2.2.2.2.1⟩) (fun _ => rfl) (fun _ h => ⟨h.1, h.2.1, h.2.2.1, h.2.2.2.1, h.2.2.2.2.1, h.2.2.2.2.2.1, h.2.2.2.2.2.2.1⟩)
theorem rd38 : Rd Try.prog 38 (fun xs : List Event => [.imm 14 (xs.map cEvent)]) (okL okEvent) := Rd.slice (m := 14) Try.underlying38 (by kernel_rfl) (by decide) rd72 (fun _ => rfl)
theorem found (aList : List Event) (h1 : (okL okEvent) aList) (aKind : Int) (h2 : i64 aKind) : ∃ n, CP T n 8 [.imm 14 (aList.map cEvent), .i .i64 aKind] = some (.b true) := ⟨_, by
  rw [show CP T (0 + 7) 8 _ = _ from e_laws_FnExactCountEvents 0 _, pure_FnExactCountEvents _ _ h1 h2]; rfl⟩
theorem lifted (os : Os) (started : os.Started) (H : Type) (enc : TypeId × Value → H) :
    ReturnsInHanded {} Try.checked os 8 .any (Rows.fnExactCountEventsSpec.pre6 enc Try.prog Try.f8 Rows.fnExactCountEventsRow.domain false) (Rows.fnExactCountEventsSpec.post enc Try.prog Try.f8 false true false false) := by
  refine returnsInHanded_of_change_sized (C := Try.checked) own started (by kernel_rfl) Try.func8
    (ChangeSpec.witness6 (enc := enc) (C := Try.checked) false ⟨#[], #[.slice none 0 0, .int .i64 0], []⟩ 8 (by kernel_rfl) (by kernel_rfl) (by kernel_rfl) (by kernel_rfl)) ?_
  intro W base args ds gs before hval0 hW hcnd hsz0 _
  have hval : ∀ (j : Nat) t v, Try.f8.params[j]? = some t → args[j]? = some v → Value.okWide Try.prog W .any base t v := hval0
  have hW' := hW
  obtain ⟨p, q, hA0, hV, rfl, hfz, hnd⟩ := hW
  have hA : DataW.TrodAll enc Try.prog W 0 (fun _ => true) true Try.f8.params.toList args.toList ds p := hA0
  rw [Try.params8] at hA hval
  obtain ⟨v1, vs1, d1, ds1, p1, q1, e1, rfl, rfl, k1, hA1⟩ := trodAll_cons hA
  obtain ⟨v2, vs2, d2, ds2, p2, q2, e2, rfl, rfl, k2, hA2⟩ := trodAll_cons hA1
  subst e2
  obtain ⟨rfl, rfl, rfl⟩ := trodAll_nil hA2
  obtain ⟨rfl, rfl⟩ := trodVars_none hV
  have hargs : args = #[v1, v2] := Array.toList_inj.1 e1
  subst hargs
  obtain ⟨x1, o1, X1⟩ := (Rv.slice Try.underlying38 rd38).rd (hval 0 _ _ rfl rfl) k1
  obtain ⟨x2, o2, X2⟩ := (Rv.int Try.underlying3).rd (hval 1 _ _ rfl rfl) k2
  obtain ⟨n, hcp⟩ := found x1 o1 x2 (i64_of o2)
  have hX : XRs W FF EN [.imm 14 (x1.map cEvent), .i .i64 x2] [v1, v2] [] := (by simp only [XRs]; exact ⟨v1, _, [], [], rfl, rfl, X1, ⟨v2, _, [], [], rfl, rfl, X2, ⟨rfl, rfl⟩⟩⟩)
  refine ((CP_ok T_ok T_mixed hcp).law hX).mono fun e W' ⟨he, bel⟩ => ?_
  subst he
  exact ⟨_, rfl, _, _, _, [], _, [], hW', trodAll_mk1 (shut_bool Try.underlying4 _), trodAll_mk2 (Below.trod laid (by kernel_rfl) (of_decide_eq_true (by kernel_rfl)) k1 bel (fun x hx => hW'.lt x (by simp [hx]))) (Below.trod laid (by kernel_rfl) (of_decide_eq_true (by kernel_rfl)) k2 bel (fun x hx => hW'.lt x (by simp [hx]))), rfl, bel.frame _, fun h => by cases h⟩
theorem over : Rows.fnExactCountEventsRow.holds Try.pinned (OpenSpec.ofChange Rows.fnExactCountEventsSpec) :=
  OpenClaim.holds_of_wide 8 Try.f8 rfl rfl rfl rfl rfl rfl rfl ⟨rfl, rfl, rfl, rfl, rfl⟩ rfl rfl rfl rfl rfl (by kernel_rfl) Try.func8 (by kernel_rfl)
    (of_decide_eq_true (by kernel_rfl)) (by unfold Func.isWrapper; first | (rw [if_pos (by decide +kernel)]; kernel_rfl) | (rw [if_neg (by decide +kernel)]; exact ⟨rfl, rfl⟩))
    (fun os started H enc _ => lifted os started H enc)
theorem proved : Rows.FnExactCountEventsSaid := over
#print axioms proved
end Go.Proofs.Ytomlnigcnkjelaa.fnExactCountEvents
namespace Go.Proofs.Ytomlnigcnkjelaa
/-- The row, under a short name, for the claim. -/
theorem fnExactCountEvents_holds : Rows.FnExactCountEventsSaid := fnExactCountEvents.proved
end Go.Proofs.Ytomlnigcnkjelaa
