/- Proves FnExactEqualHitsSaid: the law FnExactEqualHits holds at every call. No conditions beyond the row's own. -/
import Derived.Test.YtbbnecdpcblcfaaRows
import Derived.Test.YtbbnecdpcblcfaaPureFnExactEqualHits
import Derived.Test.YtbbnecdpcblcfaaEq
import Derived.Test.YtbbnecdpcblcfaaRd1
import Derived.Test.YtbbnecdpcblcfaaChecked
import Derived.WalkKit
import Derived.ProofKit
import Derived.OpenShut
import Derived.ShutString
import Derived.SizedLaws
import Derived.KernelRfl
namespace Go.Proofs.Ytbbnecdpcblcfaa.fnExactEqualHits
open Go Go.Proofs Go.Proofs.Ytbbnecdpcblcfaa Go.Proofs.Ytbbnecdpcblcfaa.Am Go.ChangeShapes Go.WideShapes Go.ChangeAt Go.RowKit
set_option linter.unusedVariables false
set_option linter.unusedSimpArgs false
set_option linter.defProp false
set_option maxRecDepth 100000
theorem own : ownKnob Try.prog.godebug = none := by kernel_rfl
theorem laid : laidOutB Try.prog = true := by kernel_rfl
theorem T_ok : T.ok = true := by kernel_rfl
theorem T_mixed : T.P.follows .mixedOrders = true := by kernel_rfl
theorem i64_of {n : Int} (h : inK .i64 n) : i64 n := h
theorem rd3 : Rd Try.prog 3 c_i64 i64 := (Rd.int Try.underlying3).map (fun x => x) (fun _ => rfl) (fun _ h => i64_of h)
theorem rd65 : Rd Try.prog 65 cHit okHit := (Rd.struct (ts := [(3, 1), (3, 1)]) Try.underlying65 (by kernel_rfl) (by kernel_rfl) (Rf.cons rd3 (Rf.cons rd3 (Rf.nil _)))).map (fun x => ⟨x.1, x.2.1⟩) (fun _ => rfl) (fun _ h => ⟨h.1, h.2.1⟩)
theorem rd29 : Rd Try.prog 29 (fun xs : List Hit => [.imm 2 (xs.map cHit)]) (okL okHit) := Rd.slice (m := 2) Try.underlying29 (by kernel_rfl) (by decide) rd65 (fun _ => rfl)
theorem found (aA : List Hit) (h1 : (okL okHit) aA) (aB : List Hit) (h2 : (okL okHit) aB) : ∃ n, CP T n 5 [.imm 2 (aA.map cHit), .imm 2 (aB.map cHit)] = some (.b true) := ⟨_, by
  rw [show CP T (0 + 4) 5 _ = _ from e_laws_FnExactEqualHits 0, pure_FnExactEqualHits _ _ h1 h2]; rfl⟩
theorem lifted (os : Os) (started : os.Started) (H : Type) (enc : TypeId × Value → H) :
    ReturnsInHanded {} Try.checked os 5 .any (Rows.fnExactEqualHitsSpec.pre6 enc Try.prog Try.f5 Rows.fnExactEqualHitsRow.domain false) (Rows.fnExactEqualHitsSpec.post enc Try.prog Try.f5 false true false false) := by
  refine returnsInHanded_of_change_sized (C := Try.checked) own started (by kernel_rfl) Try.func5
    (ChangeSpec.witness6 (enc := enc) (C := Try.checked) false ⟨#[], #[.slice none 0 0, .slice none 0 0], []⟩ 8 (by kernel_rfl) (by kernel_rfl) (by kernel_rfl) (by kernel_rfl)) ?_
  intro W base args ds gs before hval0 hW hcnd hsz0 _
  have hval : ∀ (j : Nat) t v, Try.f5.params[j]? = some t → args[j]? = some v → Value.okWide Try.prog W .any base t v := hval0
  have hW' := hW
  obtain ⟨p, q, hA0, hV, rfl, hfz, hnd⟩ := hW
  have hA : DataW.TrodAll enc Try.prog W 0 (fun _ => true) true Try.f5.params.toList args.toList ds p := hA0
  rw [Try.params5] at hA hval
  obtain ⟨v1, vs1, d1, ds1, p1, q1, e1, rfl, rfl, k1, hA1⟩ := trodAll_cons hA
  obtain ⟨v2, vs2, d2, ds2, p2, q2, e2, rfl, rfl, k2, hA2⟩ := trodAll_cons hA1
  subst e2
  obtain ⟨rfl, rfl, rfl⟩ := trodAll_nil hA2
  obtain ⟨rfl, rfl⟩ := trodVars_none hV
  have hargs : args = #[v1, v2] := Array.toList_inj.1 e1
  subst hargs
  obtain ⟨x1, o1, X1⟩ := (Rv.slice Try.underlying29 rd29).rd (hval 0 _ _ rfl rfl) k1
  obtain ⟨x2, o2, X2⟩ := (Rv.slice Try.underlying29 rd29).rd (hval 1 _ _ rfl rfl) k2
  obtain ⟨n, hcp⟩ := found x1 o1 x2 o2
  have hX : XRs W FF EN [.imm 2 (x1.map cHit), .imm 2 (x2.map cHit)] [v1, v2] [] := (by simp only [XRs]; exact ⟨v1, _, [], [], rfl, rfl, X1, ⟨v2, _, [], [], rfl, rfl, X2, ⟨rfl, rfl⟩⟩⟩)
  refine ((CP_ok T_ok T_mixed hcp).law hX).mono fun e W' ⟨he, bel⟩ => ?_
  subst he
  exact ⟨_, rfl, _, _, _, [], _, [], hW', trodAll_mk1 (shut_bool Try.underlying4 _), trodAll_mk2 (Below.trod laid (by kernel_rfl) (of_decide_eq_true (by kernel_rfl)) k1 bel (fun x hx => hW'.lt x (by simp [hx]))) (Below.trod laid (by kernel_rfl) (of_decide_eq_true (by kernel_rfl)) k2 bel (fun x hx => hW'.lt x (by simp [hx]))), rfl, bel.frame _, fun h => by cases h⟩
theorem over : Rows.fnExactEqualHitsRow.holds Try.pinned (OpenSpec.ofChange Rows.fnExactEqualHitsSpec) :=
  OpenClaim.holds_of_wide 5 Try.f5 rfl rfl rfl rfl rfl rfl rfl ⟨rfl, rfl, rfl, rfl, rfl⟩ rfl rfl rfl rfl rfl (by kernel_rfl) Try.func5 (by kernel_rfl)
    (of_decide_eq_true (by kernel_rfl)) (by unfold Func.isWrapper; first | (rw [if_pos (by decide +kernel)]; kernel_rfl) | (rw [if_neg (by decide +kernel)]; exact ⟨rfl, rfl⟩))
    (fun os started H enc _ => lifted os started H enc)
theorem proved : Rows.FnExactEqualHitsSaid := over
#print axioms proved
end Go.Proofs.Ytbbnecdpcblcfaa.fnExactEqualHits
namespace Go.Proofs.Ytbbnecdpcblcfaa
/-- The row, under a short name, for the claim. -/
theorem fnExactEqualHits_holds : Rows.FnExactEqualHitsSaid := fnExactEqualHits.proved
end Go.Proofs.Ytbbnecdpcblcfaa
