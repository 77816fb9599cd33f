/- Proves FnExactIsHouseSaid: the law FnExactIsHouse holds at every call. No conditions beyond the row's own. -/
import Derived.Test.YtcpelionmmnogaaGreatRows
import Derived.Test.YtcpelionmmnogaaGreatPureFnExactIsHouse
import Derived.Test.YtcpelionmmnogaaGreatEq
import Derived.Test.YtcpelionmmnogaaGreatRd1
import Derived.Test.YtcpelionmmnogaaGreatZt
import Derived.Test.YtcpelionmmnogaaGreatOk
import Derived.Test.YtcpelionmmnogaaGreatChecked
import Derived.WalkKit
import Derived.ProofKit
import Derived.OpenShut
import Derived.ShutString
import Derived.SizedLaws
import Derived.KernelRfl
namespace Go.Proofs.YtcpelionmmnogaaGreat.fnExactIsHouse
open Go Go.Proofs Go.Proofs.YtcpelionmmnogaaGreat Go.Proofs.YtcpelionmmnogaaGreat.Am Go.ChangeShapes Go.WideShapes Go.ChangeAt Go.RowKit
set_option linter.unusedVariables false
set_option linter.unusedSimpArgs false
set_option linter.defProp false
set_option maxRecDepth 100000
theorem own : ownKnob Tryz.prog.godebug = none := by kernel_rfl
theorem laid : laidOutB Tryz.prog = true := by kernel_rfl
theorem T_mixed : T.P.follows .mixedOrders = true := by kernel_rfl
theorem T_xt : ∀ g args x, T.xt g args = some x → PC T.P g args (· = x) := fun g args x h => (by have h1 : none = some x := h; cases h1)
theorem i64_of {n : Int} (h : inK .i64 n) : i64 n := h
theorem T_qt : ∀ g, T.qt g = true → CompP T.P g := fun g h => (by have h1 : false = true := h; cases h1)
theorem rd3 : Rd Tryz.prog 3 c_i64 i64 := (Rd.int Tryz.underlying3).map (fun x => x) (fun _ => rfl) (fun _ h => i64_of h)
theorem rd123 : Rd Tryz.prog 123 cThing okThing := (Rd.struct (ts := [(3, 1), (3, 1), (3, 1), (3, 1), (3, 1)]) Tryz.underlying123 (by kernel_rfl) (by kernel_rfl) (Rf.cons rd3 (Rf.cons rd3 (Rf.cons rd3 (Rf.cons rd3 (Rf.cons rd3 (Rf.nil _))))))).map (fun x => ⟨x.1, x.2.1, x.2.2.1, x.2.2.2.1, x.2.2.2.2.1⟩) (fun _ => rfl) (fun _ h => ⟨h.1, h.2.1, h.2.2.1, h.2.2.2.1, h.2.2.2.2.1⟩)
theorem rd125 : Rd Tryz.prog 125 cFind okFind := (Rd.struct (ts := [(123, 5), (3, 1), (3, 1), (3, 1)]) Tryz.underlying125 (by kernel_rfl) (by kernel_rfl) (Rf.cons rd123 (Rf.cons rd3 (Rf.cons rd3 (Rf.cons rd3 (Rf.nil _)))))).map (fun x => ⟨x.1, x.2.1, x.2.2.1, x.2.2.2.1⟩) (fun _ => rfl) (fun _ h => ⟨h.1, h.2.1, h.2.2.1, h.2.2.2.1⟩)
theorem rd22 : Rd Tryz.prog 22 (fun xs : List Find => [.imm 8 (xs.map cFind)]) (okL okFind) := Rd.slice (m := 8) Tryz.underlying22 (by kernel_rfl) (by decide) rd125 (fun _ => rfl)
theorem rd163 : Rd Tryz.prog 163 cMark okMark := (Rd.struct (ts := [(3, 1), (3, 1)]) Tryz.underlying163 (by kernel_rfl) (by kernel_rfl) (Rf.cons rd3 (Rf.cons rd3 (Rf.nil _)))).map (fun x => ⟨x.1, x.2.1⟩) (fun _ => rfl) (fun _ h => ⟨h.1, h.2.1⟩)
theorem rd98 : Rd Tryz.prog 98 (fun xs : List Mark => [.imm 2 (xs.map cMark)]) (okL okMark) := Rd.slice (m := 2) Tryz.underlying98 (by kernel_rfl) (by decide) rd163 (fun _ => rfl)
theorem rd100 : Rd Tryz.prog 100 cSecret okSecret := (Rd.struct (ts := [(3, 1), (98, 1), (3, 1)]) Tryz.underlying100 (by kernel_rfl) (by kernel_rfl) (Rf.cons rd3 (Rf.cons rd98 (Rf.cons rd3 (Rf.nil _))))).map (fun x => ⟨x.1, x.2.1, x.2.2.1⟩) (fun _ => rfl) (fun _ h => ⟨h.1, h.2.1, h.2.2.1⟩)
theorem rd23 : Rd Tryz.prog 23 (fun xs : List Secret => [.imm 3 (xs.map cSecret)]) (okL okSecret) := Rd.slice (m := 3) Tryz.underlying23 (by kernel_rfl) (by decide) rd100 (fun _ => rfl)
theorem rd88 : Rd Tryz.prog 88 cSlot okSlot := (Rd.struct (ts := [(3, 1), (3, 1), (3, 1)]) Tryz.underlying88 (by kernel_rfl) (by kernel_rfl) (Rf.cons rd3 (Rf.cons rd3 (Rf.cons rd3 (Rf.nil _))))).map (fun x => ⟨x.1, x.2.1, x.2.2.1⟩) (fun _ => rfl) (fun _ h => ⟨h.1, h.2.1, h.2.2.1⟩)
theorem rd24 : Rd Tryz.prog 24 (fun xs : List Slot => [.imm 3 (xs.map cSlot)]) (okL okSlot) := Rd.slice (m := 3) Tryz.underlying24 (by kernel_rfl) (by decide) rd88 (fun _ => rfl)
theorem rd128 : Rd Tryz.prog 128 cClaim okClaim := (Rd.struct (ts := [(3, 1), (3, 1), (3, 1), (3, 1), (3, 1)]) Tryz.underlying128 (by kernel_rfl) (by kernel_rfl) (Rf.cons rd3 (Rf.cons rd3 (Rf.cons rd3 (Rf.cons rd3 (Rf.cons rd3 (Rf.nil _))))))).map (fun x => ⟨x.1, x.2.1, x.2.2.1, x.2.2.2.1, x.2.2.2.2.1⟩) (fun _ => rfl) (fun _ h => ⟨h.1, h.2.1, h.2.2.1, h.2.2.2.1, h.2.2.2.2.1⟩)
theorem rd25 : Rd Tryz.prog 25 (fun xs : List Claim => [.imm 5 (xs.map cClaim)]) (okL okClaim) := Rd.slice (m := 5) Tryz.underlying25 (by kernel_rfl) (by decide) rd128 (fun _ => rfl)
theorem rd130 : Rd Tryz.prog 130 cTrial okTrial := (Rd.struct (ts := [(3, 1), (3, 1), (3, 1), (3, 1)]) Tryz.underlying130 (by kernel_rfl) (by kernel_rfl) (Rf.cons rd3 (Rf.cons rd3 (Rf.cons rd3 (Rf.cons rd3 (Rf.nil _)))))).map (fun x => ⟨x.1, x.2.1, x.2.2.1, x.2.2.2.1⟩) (fun _ => rfl) (fun _ h => ⟨h.1, h.2.1, h.2.2.1, h.2.2.2.1⟩)
theorem rd26 : Rd Tryz.prog 26 (fun xs : List Trial => [.imm 4 (xs.map cTrial)]) (okL okTrial) := Rd.slice (m := 4) Tryz.underlying26 (by kernel_rfl) (by decide) rd130 (fun _ => rfl)
theorem rd132 : Rd Tryz.prog 132 cHand okHand := (Rd.struct (ts := [(3, 1), (3, 1), (3, 1), (3, 1), (3, 1)]) Tryz.underlying132 (by kernel_rfl) (by kernel_rfl) (Rf.cons rd3 (Rf.cons rd3 (Rf.cons rd3 (Rf.cons rd3 (Rf.cons rd3 (Rf.nil _))))))).map (fun x => ⟨x.1, x.2.1, x.2.2.1, x.2.2.2.1, x.2.2.2.2.1⟩) (fun _ => rfl) (fun _ h => ⟨h.1, h.2.1, h.2.2.1, h.2.2.2.1, h.2.2.2.2.1⟩)
theorem rd27 : Rd Tryz.prog 27 (fun xs : List Hand => [.imm 5 (xs.map cHand)]) (okL okHand) := Rd.slice (m := 5) Tryz.underlying27 (by kernel_rfl) (by decide) rd132 (fun _ => rfl)
theorem rd134 : Rd Tryz.prog 134 cEntry okEntry := (Rd.struct (ts := [(3, 1), (3, 1), (3, 1), (3, 1)]) Tryz.underlying134 (by kernel_rfl) (by kernel_rfl) (Rf.cons rd3 (Rf.cons rd3 (Rf.cons rd3 (Rf.cons rd3 (Rf.nil _)))))).map (fun x => ⟨x.1, x.2.1, x.2.2.1, x.2.2.2.1⟩) (fun _ => rfl) (fun _ h => ⟨h.1, h.2.1, h.2.2.1, h.2.2.2.1⟩)
theorem rd28 : Rd Tryz.prog 28 (fun xs : List Entry => [.imm 4 (xs.map cEntry)]) (okL okEntry) := Rd.slice (m := 4) Tryz.underlying28 (by kernel_rfl) (by decide) rd134 (fun _ => rfl)
theorem rd30 : Rd Tryz.prog 30 cHouse okHouse := (Rd.struct (ts := [(3, 1), (22, 1), (23, 1), (24, 1), (25, 1), (26, 1), (27, 1), (28, 1), (3, 1)]) Tryz.underlying30 (by kernel_rfl) (by kernel_rfl) (Rf.cons rd3 (Rf.cons rd22 (Rf.cons rd23 (Rf.cons rd24 (Rf.cons rd25 (Rf.cons rd26 (Rf.cons rd27 (Rf.cons rd28 (Rf.cons rd3 (Rf.nil _))))))))))).map (fun x => ⟨x.1, x.2.1, x.2.2.1, x.2.2.2.1, x.2.2.2.2.1, x.2.2.2.2.2.1, x.2.2.2.2.2.2.1, x.2.2.2.2.2.2.2.1, x.2.2.2.2.2.2.2.2.1⟩) (fun _ => rfl) (fun _ h => ⟨h.1, h.2.1, h.2.2.1, h.2.2.2.1, h.2.2.2.2.1, h.2.2.2.2.2.1, h.2.2.2.2.2.2.1, h.2.2.2.2.2.2.2.1, h.2.2.2.2.2.2.2.2.1⟩)
theorem found (aH : House) (h1 : okHouse aH) : ∃ n, CP T n 3 [.agg (cHouse aH)] = some (.b true) := ⟨_, by
  simp only [e_cHouse]
  rw [show CP T (0 + 12) 3 _ = _ from e_laws_FnExactIsHouse 0 _ _, pure_FnExactIsHouse _ h1]; rfl⟩
theorem lifted (os : Os) (started : os.Started) (H : Type) (enc : TypeId × Value → H) :
    ReturnsInHanded {} Tryz.checked os 3 .any (Rows.fnExactIsHouseSpec.pre6 enc Tryz.prog Tryz.f3 Rows.fnExactIsHouseRow.domain false) (Rows.fnExactIsHouseSpec.post enc Tryz.prog Tryz.f3 false true false false) := by
  refine returnsInHanded_of_change_sized (C := Tryz.checked) own started (by kernel_rfl) Tryz.func3
    (ChangeSpec.witness6 (enc := enc) (C := Tryz.checked) false ⟨#[], #[.agg #[.int .i64 0, .slice none 0 0, .slice none 0 0, .slice none 0 0, .slice none 0 0, .slice none 0 0, .slice none 0 0, .slice none 0 0, .int .i64 0]], []⟩ 8 (by kernel_rfl) (by kernel_rfl) (by kernel_rfl) (by kernel_rfl)) ?_
  intro W base args ds gs before hval0 hW hcnd hsz0 _
  have hval : ∀ (j : Nat) t v, Tryz.f3.params[j]? = some t → args[j]? = some v → Value.okWide Tryz.prog W .any base t v := hval0
  have hW' := hW
  obtain ⟨p, q, hA0, hV, rfl, hfz, hnd⟩ := hW
  have hA : DataW.TrodAll enc Tryz.prog W 0 (fun _ => true) true Tryz.f3.params.toList args.toList ds p := hA0
  rw [Tryz.params3] at hA hval
  obtain ⟨v1, vs1, d1, ds1, p1, q1, e1, rfl, rfl, k1, hA1⟩ := trodAll_cons hA
  obtain ⟨rfl, rfl, rfl⟩ := trodAll_nil hA1
  obtain ⟨rfl, rfl⟩ := trodVars_none hV
  have hargs : args = #[v1] := Array.toList_inj.1 e1
  subst hargs
  obtain ⟨x1, o1, X1⟩ := (Rv.struct Tryz.underlying30 rd30).rd (hval 0 _ _ rfl rfl) k1
  obtain ⟨n, hcp⟩ := found x1 o1
  have hX : XRs W FF EN [.agg (cHouse x1)] [v1] [] := (by simp only [XRs]; exact ⟨v1, _, [], [], rfl, rfl, X1, ⟨rfl, rfl⟩⟩)
  refine ((CP_ok T_ok T_mixed T_xt T_st T_qt hcp).law trivial hX).mono fun e W' ⟨he, bel⟩ => ?_
  subst he
  exact ⟨_, rfl, _, _, _, [], _, [], hW', trodAll_mk1 (shut_bool Tryz.underlying4 _), trodAll_mk1 (Below.trod laid (by kernel_rfl) (of_decide_eq_true (by kernel_rfl)) k1 bel (fun x hx => hW'.lt x (by simp [hx]))), rfl, bel.frame _, fun h => by cases h⟩
theorem over : Rows.fnExactIsHouseRow.holds Tryz.pinned (OpenSpec.ofChange Rows.fnExactIsHouseSpec) :=
  OpenClaim.holds_of_wide 3 Tryz.f3 rfl rfl rfl rfl rfl rfl rfl ⟨rfl, rfl, rfl, rfl, rfl⟩ rfl rfl rfl rfl rfl (by kernel_rfl) Tryz.func3 (by kernel_rfl)
    (of_decide_eq_true (by kernel_rfl)) (by unfold Func.isWrapper; first | (rw [if_pos (by decide +kernel)]; kernel_rfl) | (rw [if_neg (by decide +kernel)]; exact ⟨rfl, rfl⟩))
    (fun os started H enc _ => lifted os started H enc)
theorem proved : Rows.FnExactIsHouseSaid := over
#print axioms proved
end Go.Proofs.YtcpelionmmnogaaGreat.fnExactIsHouse
namespace Go.Proofs.YtcpelionmmnogaaGreat
/-- The row, under a short name, for the claim. -/
theorem fnExactIsHouse_holds : Rows.FnExactIsHouseSaid := fnExactIsHouse.proved
end Go.Proofs.YtcpelionmmnogaaGreat
