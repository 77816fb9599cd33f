/- Proves FnExactFindAllSaid: the law FnExactFindAll holds at every call. No conditions beyond the row's own. -/
import Derived.Test.YtcpelionmmnogaaRows
import Derived.Test.YtcpelionmmnogaaPureFnExactFindAll
import Derived.Test.YtcpelionmmnogaaEq
import Derived.Test.YtcpelionmmnogaaRd1
import Derived.Test.YtcpelionmmnogaaChecked
import Derived.WalkKit
import Derived.ProofKit
import Derived.OpenShut
import Derived.ShutString
import Derived.SizedLaws
import Derived.KernelRfl
namespace Go.Proofs.Ytcpelionmmnogaa.fnExactFindAll
open Go Go.Proofs Go.Proofs.Ytcpelionmmnogaa Go.Proofs.Ytcpelionmmnogaa.Am Go.ChangeShapes Go.WideShapes Go.ChangeAt Go.RowKit
set_option linter.unusedVariables false
set_option linter.unusedSimpArgs false
set_option linter.defProp false
set_option maxRecDepth 100000
theorem own : ownKnob Try.prog.godebug = none := by kernel_rfl
theorem laid : laidOutB Try.prog = true := by kernel_rfl
theorem T_ok : T.ok = true := by kernel_rfl
theorem T_mixed : T.P.follows .mixedOrders = true := by kernel_rfl
instance wd0 : Wd := ⟨fun _ => True, fun _ _ => trivial⟩
theorem T_xt : ∀ g args x, T.xt g args = some x → PC T.P g args (· = x) := fun g args x h => (by have h1 : none = some x := h; cases h1)
theorem T_st : ∀ g, T.st g = true → SortP T.P g := fun g h => (by have h1 : false = true := h; cases h1)
theorem i64_of {n : Int} (h : inK .i64 n) : i64 n := h
theorem T_qt : ∀ g, T.qt g = true → CompP T.P g := fun g h => (by have h1 : false = true := h; cases h1)
theorem rd3 : Rd Try.prog 3 c_i64 i64 := (Rd.int Try.underlying3).map (fun x => x) (fun _ => rfl) (fun _ h => i64_of h)
theorem rd76 : Rd Try.prog 76 cThing okThing := (Rd.struct (ts := [(3, 1), (3, 1), (3, 1), (3, 1), (3, 1)]) Try.underlying76 (by kernel_rfl) (by kernel_rfl) (Rf.cons rd3 (Rf.cons rd3 (Rf.cons rd3 (Rf.cons rd3 (Rf.cons rd3 (Rf.nil _))))))).map (fun x => ⟨x.1, x.2.1, x.2.2.1, x.2.2.2.1, x.2.2.2.2.1⟩) (fun _ => rfl) (fun _ h => ⟨h.1, h.2.1, h.2.2.1, h.2.2.2.1, h.2.2.2.2.1⟩)
theorem rd78 : Rd Try.prog 78 cFind okFind := (Rd.struct (ts := [(76, 5), (3, 1), (3, 1), (3, 1)]) Try.underlying78 (by kernel_rfl) (by kernel_rfl) (Rf.cons rd76 (Rf.cons rd3 (Rf.cons rd3 (Rf.cons rd3 (Rf.nil _)))))).map (fun x => ⟨x.1, x.2.1, x.2.2.1, x.2.2.2.1⟩) (fun _ => rfl) (fun _ h => ⟨h.1, h.2.1, h.2.2.1, h.2.2.2.1⟩)
theorem rd22 : Rd Try.prog 22 (fun xs : List Find => [.imm 8 (xs.map cFind)]) (okL okFind) := Rd.slice (m := 8) Try.underlying22 (by kernel_rfl) (by decide) rd78 (fun _ => rfl)
theorem rd82 : Rd Try.prog 82 cMark okMark := (Rd.struct (ts := [(3, 1), (3, 1)]) Try.underlying82 (by kernel_rfl) (by kernel_rfl) (Rf.cons rd3 (Rf.cons rd3 (Rf.nil _)))).map (fun x => ⟨x.1, x.2.1⟩) (fun _ => rfl) (fun _ h => ⟨h.1, h.2.1⟩)
theorem rd23 : Rd Try.prog 23 (fun xs : List Mark => [.imm 2 (xs.map cMark)]) (okL okMark) := Rd.slice (m := 2) Try.underlying23 (by kernel_rfl) (by decide) rd82 (fun _ => rfl)
theorem found (aL : List Find) (h1 : (okL okFind) aL) (a : List Mark) (h2 : (okL okMark) a) : ∃ n, CP T n 3 [.imm 8 (aL.map cFind), .imm 2 (a.map cMark)] = some (.b true) := ⟨_, by
  rw [show CP T (0 + 7) 3 _ = _ from e_laws_FnExactFindAll 0, pure_FnExactFindAll _ _ h1 h2]; rfl⟩
theorem lifted (os : Os) (started : os.Started) (H : Type) (enc : TypeId × Value → H) :
    ReturnsInHanded {} Try.checked os 3 .any (Rows.fnExactFindAllSpec.pre6 enc Try.prog Try.f3 Rows.fnExactFindAllRow.domain false) (Rows.fnExactFindAllSpec.post enc Try.prog Try.f3 false true false false) := by
  refine returnsInHanded_of_change_sized (C := Try.checked) own started (by kernel_rfl) Try.func3
    (ChangeSpec.witness6 (enc := enc) (C := Try.checked) false ⟨#[], #[.slice none 0 0, .slice none 0 0], []⟩ 8 (by kernel_rfl) (by kernel_rfl) (by kernel_rfl) (by kernel_rfl)) ?_
  intro W base args ds gs before hval0 hW hcnd hsz0 _
  have hval : ∀ (j : Nat) t v, Try.f3.params[j]? = some t → args[j]? = some v → Value.okWide Try.prog W .any base t v := hval0
  have hW' := hW
  obtain ⟨p, q, hA0, hV, rfl, hfz, hnd⟩ := hW
  have hA : DataW.TrodAll enc Try.prog W 0 (fun _ => true) true Try.f3.params.toList args.toList ds p := hA0
  rw [Try.params3] at hA hval
  obtain ⟨v1, vs1, d1, ds1, p1, q1, e1, rfl, rfl, k1, hA1⟩ := trodAll_cons hA
  obtain ⟨v2, vs2, d2, ds2, p2, q2, e2, rfl, rfl, k2, hA2⟩ := trodAll_cons hA1
  subst e2
  obtain ⟨rfl, rfl, rfl⟩ := trodAll_nil hA2
  obtain ⟨rfl, rfl⟩ := trodVars_none hV
  have hargs : args = #[v1, v2] := Array.toList_inj.1 e1
  subst hargs
  obtain ⟨x1, o1, X1⟩ := (Rv.slice Try.underlying22 rd22).rd (hval 0 _ _ rfl rfl) k1
  obtain ⟨x2, o2, X2⟩ := (Rv.slice Try.underlying23 rd23).rd (hval 1 _ _ rfl rfl) k2
  obtain ⟨n, hcp⟩ := found x1 o1 x2 o2
  have hX : XRs W FF EN [.imm 8 (x1.map cFind), .imm 2 (x2.map cMark)] [v1, v2] [] := (by simp only [XRs]; exact ⟨v1, _, [], [], rfl, rfl, X1, ⟨v2, _, [], [], rfl, rfl, X2, ⟨rfl, rfl⟩⟩⟩)
  refine ((CP_ok T_ok T_mixed T_xt T_st T_qt hcp).law trivial hX).mono fun e W' ⟨he, bel⟩ => ?_
  subst he
  exact ⟨_, rfl, _, _, _, [], _, [], hW', trodAll_mk1 (shut_bool Try.underlying4 _), trodAll_mk2 (Below.trod laid (by kernel_rfl) (of_decide_eq_true (by kernel_rfl)) k1 bel (fun x hx => hW'.lt x (by simp [hx]))) (Below.trod laid (by kernel_rfl) (of_decide_eq_true (by kernel_rfl)) k2 bel (fun x hx => hW'.lt x (by simp [hx]))), rfl, bel.frame _, fun h => by cases h⟩
theorem over : Rows.fnExactFindAllRow.holds Try.pinned (OpenSpec.ofChange Rows.fnExactFindAllSpec) :=
  OpenClaim.holds_of_wide 3 Try.f3 rfl rfl rfl rfl rfl rfl rfl ⟨rfl, rfl, rfl, rfl, rfl⟩ rfl rfl rfl rfl rfl (by kernel_rfl) Try.func3 (by kernel_rfl)
    (of_decide_eq_true (by kernel_rfl)) (by unfold Func.isWrapper; first | (rw [if_pos (by decide +kernel)]; kernel_rfl) | (rw [if_neg (by decide +kernel)]; exact ⟨rfl, rfl⟩))
    (fun os started H enc _ => lifted os started H enc)
theorem proved : Rows.FnExactFindAllSaid := over
#print axioms proved
end Go.Proofs.Ytcpelionmmnogaa.fnExactFindAll
namespace Go.Proofs.Ytcpelionmmnogaa
/-- The row, under a short name, for the claim. -/
theorem fnExactFindAll_holds : Rows.FnExactFindAllSaid := fnExactFindAll.proved
end Go.Proofs.Ytcpelionmmnogaa
