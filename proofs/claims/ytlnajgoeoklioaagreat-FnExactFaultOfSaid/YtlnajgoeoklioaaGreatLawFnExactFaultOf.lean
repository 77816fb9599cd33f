/- Proves FnExactFaultOfSaid: the law FnExactFaultOf holds at every call. No conditions beyond the row's own. -/
import Derived.Test.YtlnajgoeoklioaaGreatRows
import Derived.Test.YtlnajgoeoklioaaGreatPureFnExactFaultOf
import Derived.Test.YtlnajgoeoklioaaGreatEq
import Derived.Test.YtlnajgoeoklioaaGreatRd1
import Derived.Test.YtlnajgoeoklioaaGreatZt
import Derived.Test.YtlnajgoeoklioaaGreatOk
import Derived.Test.YtlnajgoeoklioaaGreatChecked
import Derived.WalkKit
import Derived.ProofKit
import Derived.OpenShut
import Derived.ShutString
import Derived.SizedLaws
import Derived.KernelRfl
namespace Go.Proofs.YtlnajgoeoklioaaGreat.fnExactFaultOf
open Go Go.Proofs Go.Proofs.YtlnajgoeoklioaaGreat Go.Proofs.YtlnajgoeoklioaaGreat.Am Go.ChangeShapes Go.WideShapes Go.ChangeAt Go.RowKit
set_option linter.unusedVariables false
set_option linter.unusedSimpArgs false
set_option linter.defProp false
set_option maxRecDepth 100000
theorem own : ownKnob Tryz.prog.godebug = none := by kernel_rfl
theorem laid : laidOutB Tryz.prog = true := by kernel_rfl
theorem T_mixed : T.P.follows .mixedOrders = true := by kernel_rfl
theorem i64_of {n : Int} (h : inK .i64 n) : i64 n := h
theorem rd3 : Rd Tryz.prog 3 c_i64 i64 := (Rd.int Tryz.underlying3).map (fun x => x) (fun _ => rfl) (fun _ h => i64_of h)
theorem rd54 : Rd Tryz.prog 54 cThing okThing := (Rd.struct (ts := [(3, 1), (3, 1), (3, 1), (3, 1), (3, 1)]) Tryz.underlying54 (by kernel_rfl) (by kernel_rfl) (Rf.cons rd3 (Rf.cons rd3 (Rf.cons rd3 (Rf.cons rd3 (Rf.cons rd3 (Rf.nil _))))))).map (fun x => ⟨x.1, x.2.1, x.2.2.1, x.2.2.2.1, x.2.2.2.2.1⟩) (fun _ => rfl) (fun _ h => ⟨h.1, h.2.1, h.2.2.1, h.2.2.2.1, h.2.2.2.2.1⟩)
theorem rd56 : Rd Tryz.prog 56 cFind okFind := (Rd.struct (ts := [(54, 5), (3, 1), (3, 1), (3, 1)]) Tryz.underlying56 (by kernel_rfl) (by kernel_rfl) (Rf.cons rd54 (Rf.cons rd3 (Rf.cons rd3 (Rf.cons rd3 (Rf.nil _)))))).map (fun x => ⟨x.1, x.2.1, x.2.2.1, x.2.2.2.1⟩) (fun _ => rfl) (fun _ h => ⟨h.1, h.2.1, h.2.2.1, h.2.2.2.1⟩)
theorem rd22 : Rd Tryz.prog 22 (fun xs : List Find => [.imm 8 (xs.map cFind)]) (okL okFind) := Rd.slice (m := 8) Tryz.underlying22 (by kernel_rfl) (by decide) rd56 (fun _ => rfl)
theorem rd138 : Rd Tryz.prog 138 cMark okMark := (Rd.struct (ts := [(3, 1), (3, 1)]) Tryz.underlying138 (by kernel_rfl) (by kernel_rfl) (Rf.cons rd3 (Rf.cons rd3 (Rf.nil _)))).map (fun x => ⟨x.1, x.2.1⟩) (fun _ => rfl) (fun _ h => ⟨h.1, h.2.1⟩)
theorem rd57 : Rd Tryz.prog 57 (fun xs : List Mark => [.imm 2 (xs.map cMark)]) (okL okMark) := Rd.slice (m := 2) Tryz.underlying57 (by kernel_rfl) (by decide) rd138 (fun _ => rfl)
theorem rd142 : Rd Tryz.prog 142 cSecret okSecret := (Rd.struct (ts := [(3, 1), (57, 1), (3, 1)]) Tryz.underlying142 (by kernel_rfl) (by kernel_rfl) (Rf.cons rd3 (Rf.cons rd57 (Rf.cons rd3 (Rf.nil _))))).map (fun x => ⟨x.1, x.2.1, x.2.2.1⟩) (fun _ => rfl) (fun _ h => ⟨h.1, h.2.1, h.2.2.1⟩)
theorem rd23 : Rd Tryz.prog 23 (fun xs : List Secret => [.imm 3 (xs.map cSecret)]) (okL okSecret) := Rd.slice (m := 3) Tryz.underlying23 (by kernel_rfl) (by decide) rd142 (fun _ => rfl)
theorem rd160 : Rd Tryz.prog 160 cSlot okSlot := (Rd.struct (ts := [(3, 1), (3, 1), (3, 1)]) Tryz.underlying160 (by kernel_rfl) (by kernel_rfl) (Rf.cons rd3 (Rf.cons rd3 (Rf.cons rd3 (Rf.nil _))))).map (fun x => ⟨x.1, x.2.1, x.2.2.1⟩) (fun _ => rfl) (fun _ h => ⟨h.1, h.2.1, h.2.2.1⟩)
theorem rd24 : Rd Tryz.prog 24 (fun xs : List Slot => [.imm 3 (xs.map cSlot)]) (okL okSlot) := Rd.slice (m := 3) Tryz.underlying24 (by kernel_rfl) (by decide) rd160 (fun _ => rfl)
theorem rd162 : Rd Tryz.prog 162 cClaim okClaim := (Rd.struct (ts := [(3, 1), (3, 1), (3, 1), (3, 1), (3, 1)]) Tryz.underlying162 (by kernel_rfl) (by kernel_rfl) (Rf.cons rd3 (Rf.cons rd3 (Rf.cons rd3 (Rf.cons rd3 (Rf.cons rd3 (Rf.nil _))))))).map (fun x => ⟨x.1, x.2.1, x.2.2.1, x.2.2.2.1, x.2.2.2.2.1⟩) (fun _ => rfl) (fun _ h => ⟨h.1, h.2.1, h.2.2.1, h.2.2.2.1, h.2.2.2.2.1⟩)
theorem rd25 : Rd Tryz.prog 25 (fun xs : List Claim => [.imm 5 (xs.map cClaim)]) (okL okClaim) := Rd.slice (m := 5) Tryz.underlying25 (by kernel_rfl) (by decide) rd162 (fun _ => rfl)
theorem rd164 : Rd Tryz.prog 164 cTrial okTrial := (Rd.struct (ts := [(3, 1), (3, 1), (3, 1), (3, 1)]) Tryz.underlying164 (by kernel_rfl) (by kernel_rfl) (Rf.cons rd3 (Rf.cons rd3 (Rf.cons rd3 (Rf.cons rd3 (Rf.nil _)))))).map (fun x => ⟨x.1, x.2.1, x.2.2.1, x.2.2.2.1⟩) (fun _ => rfl) (fun _ h => ⟨h.1, h.2.1, h.2.2.1, h.2.2.2.1⟩)
theorem rd26 : Rd Tryz.prog 26 (fun xs : List Trial => [.imm 4 (xs.map cTrial)]) (okL okTrial) := Rd.slice (m := 4) Tryz.underlying26 (by kernel_rfl) (by decide) rd164 (fun _ => rfl)
theorem rd166 : Rd Tryz.prog 166 cHand okHand := (Rd.struct (ts := [(3, 1), (3, 1), (3, 1), (3, 1), (3, 1)]) Tryz.underlying166 (by kernel_rfl) (by kernel_rfl) (Rf.cons rd3 (Rf.cons rd3 (Rf.cons rd3 (Rf.cons rd3 (Rf.cons rd3 (Rf.nil _))))))).map (fun x => ⟨x.1, x.2.1, x.2.2.1, x.2.2.2.1, x.2.2.2.2.1⟩) (fun _ => rfl) (fun _ h => ⟨h.1, h.2.1, h.2.2.1, h.2.2.2.1, h.2.2.2.2.1⟩)
theorem rd27 : Rd Tryz.prog 27 (fun xs : List Hand => [.imm 5 (xs.map cHand)]) (okL okHand) := Rd.slice (m := 5) Tryz.underlying27 (by kernel_rfl) (by decide) rd166 (fun _ => rfl)
theorem rd168 : Rd Tryz.prog 168 cEntry okEntry := (Rd.struct (ts := [(3, 1), (3, 1), (3, 1), (3, 1)]) Tryz.underlying168 (by kernel_rfl) (by kernel_rfl) (Rf.cons rd3 (Rf.cons rd3 (Rf.cons rd3 (Rf.cons rd3 (Rf.nil _)))))).map (fun x => ⟨x.1, x.2.1, x.2.2.1, x.2.2.2.1⟩) (fun _ => rfl) (fun _ h => ⟨h.1, h.2.1, h.2.2.1, h.2.2.2.1⟩)
theorem rd28 : Rd Tryz.prog 28 (fun xs : List Entry => [.imm 4 (xs.map cEntry)]) (okL okEntry) := Rd.slice (m := 4) Tryz.underlying28 (by kernel_rfl) (by decide) rd168 (fun _ => rfl)
theorem rd30 : Rd Tryz.prog 30 cHouse okHouse := (Rd.struct (ts := [(3, 1), (22, 1), (23, 1), (24, 1), (25, 1), (26, 1), (27, 1), (28, 1), (3, 1)]) Tryz.underlying30 (by kernel_rfl) (by kernel_rfl) (Rf.cons rd3 (Rf.cons rd22 (Rf.cons rd23 (Rf.cons rd24 (Rf.cons rd25 (Rf.cons rd26 (Rf.cons rd27 (Rf.cons rd28 (Rf.cons rd3 (Rf.nil _))))))))))).map (fun x => ⟨x.1, x.2.1, x.2.2.1, x.2.2.2.1, x.2.2.2.2.1, x.2.2.2.2.2.1, x.2.2.2.2.2.2.1, x.2.2.2.2.2.2.2.1, x.2.2.2.2.2.2.2.2.1⟩) (fun _ => rfl) (fun _ h => ⟨h.1, h.2.1, h.2.2.1, h.2.2.2.1, h.2.2.2.2.1, h.2.2.2.2.2.1, h.2.2.2.2.2.2.1, h.2.2.2.2.2.2.2.1, h.2.2.2.2.2.2.2.2.1⟩)
theorem found (aH : House) (h1 : okHouse aH) : ∃ n, CP T n 3 [.agg (cHouse aH)] = some (.b true) := ⟨_, by
  simp only [e_cHouse]
  rw [show CP T (0 + 13) 3 _ = _ from e_laws_FnExactFaultOf 0 _ _, pure_FnExactFaultOf _ h1]; rfl⟩
theorem lifted (os : Os) (started : os.Started) (H : Type) (enc : TypeId × Value → H) :
    ReturnsInHanded {} Tryz.checked os 3 .any (Rows.fnExactFaultOfSpec.pre6 enc Tryz.prog Tryz.f3 Rows.fnExactFaultOfRow.domain false) (Rows.fnExactFaultOfSpec.post enc Tryz.prog Tryz.f3 false true false false) := by
  refine returnsInHanded_of_change_sized (C := Tryz.checked) own started (by kernel_rfl) Tryz.func3
    (ChangeSpec.witness6 (enc := enc) (C := Tryz.checked) false ⟨#[], #[.agg #[.int .i64 0, .slice none 0 0, .slice none 0 0, .slice none 0 0, .slice none 0 0, .slice none 0 0, .slice none 0 0, .slice none 0 0, .int .i64 0]], []⟩ 8 (by kernel_rfl) (by kernel_rfl) (by kernel_rfl) (by kernel_rfl)) ?_
  intro W base args ds gs before hval0 hW hcnd hsz0 _
  have hval : ∀ (j : Nat) t v, Tryz.f3.params[j]? = some t → args[j]? = some v → Value.okWide Tryz.prog W .any base t v := hval0
  have hW' := hW
  obtain ⟨p, q, hA0, hV, rfl, hfz, hnd⟩ := hW
  have hA : DataW.TrodAll enc Tryz.prog W 0 (fun _ => true) true Tryz.f3.params.toList args.toList ds p := hA0
  rw [Tryz.params3] at hA hval
  obtain ⟨v1, vs1, d1, ds1, p1, q1, e1, rfl, rfl, k1, hA1⟩ := trodAll_cons hA
  obtain ⟨rfl, rfl, rfl⟩ := trodAll_nil hA1
  obtain ⟨rfl, rfl⟩ := trodVars_none hV
  have hargs : args = #[v1] := Array.toList_inj.1 e1
  subst hargs
  obtain ⟨x1, o1, X1⟩ := (Rv.struct Tryz.underlying30 rd30).rd (hval 0 _ _ rfl rfl) k1
  obtain ⟨n, hcp⟩ := found x1 o1
  have hX : XRs W FF EN [.agg (cHouse x1)] [v1] [] := (by simp only [XRs]; exact ⟨v1, _, [], [], rfl, rfl, X1, ⟨rfl, rfl⟩⟩)
  refine ((CP_ok T_ok T_mixed T_xt T_st T_qt hcp).law trivial hX).mono fun e W' ⟨he, bel⟩ => ?_
  subst he
  exact ⟨_, rfl, _, _, _, [], _, [], hW', trodAll_mk1 (shut_bool Tryz.underlying4 _), trodAll_mk1 (Below.trod laid (by kernel_rfl) (of_decide_eq_true (by kernel_rfl)) k1 bel (fun x hx => hW'.lt x (by simp [hx]))), rfl, bel.frame _, fun h => by cases h⟩
theorem over : Rows.fnExactFaultOfRow.holds Tryz.pinned (OpenSpec.ofChange Rows.fnExactFaultOfSpec) :=
  OpenClaim.holds_of_wide 3 Tryz.f3 rfl rfl rfl rfl rfl rfl rfl ⟨rfl, rfl, rfl, rfl, rfl⟩ rfl rfl rfl rfl rfl (by kernel_rfl) Tryz.func3 (by kernel_rfl)
    (of_decide_eq_true (by kernel_rfl)) (by unfold Func.isWrapper; first | (rw [if_pos (by decide +kernel)]; kernel_rfl) | (rw [if_neg (by decide +kernel)]; exact ⟨rfl, rfl⟩))
    (fun os started H enc _ => lifted os started H enc)
theorem proved : Rows.FnExactFaultOfSaid := over
#print axioms proved
end Go.Proofs.YtlnajgoeoklioaaGreat.fnExactFaultOf
namespace Go.Proofs.YtlnajgoeoklioaaGreat
/-- The row, under a short name, for the claim. -/
theorem fnExactFaultOf_holds : Rows.FnExactFaultOfSaid := fnExactFaultOf.proved
end Go.Proofs.YtlnajgoeoklioaaGreat
