/- The law FnExactNewHouse at every call, before its row is joined. No conditions beyond the row's own. -/
import Derived.Test.YtcdffihcfeajfaaGreatRows
import Derived.Test.YtcdffihcfeajfaaGreatPureFnExactNewHouse
import Derived.Test.YtcdffihcfeajfaaGreatEq
import Derived.Test.YtcdffihcfeajfaaGreatEvD
import Derived.Test.YtcdffihcfeajfaaGreatZt
import Derived.Test.YtcdffihcfeajfaaGreatOk
import Derived.Test.YtcdffihcfeajfaaGreatChecked
import Derived.WalkKit
import Derived.ProofKit
import Derived.OpenShut
import Derived.ShutString
import Derived.SizedLaws
import Derived.KernelRfl
namespace Go.Proofs.YtcdffihcfeajfaaGreat.fnExactNewHouse
open Go Go.Proofs Go.Proofs.YtcdffihcfeajfaaGreat Go.Proofs.YtcdffihcfeajfaaGreat.Am Go.ChangeShapes Go.WideShapes Go.ChangeAt Go.RowKit
set_option linter.unusedVariables false
set_option linter.unusedSimpArgs false
set_option linter.defProp false
set_option maxRecDepth 100000
theorem own : ownKnob Tryz.prog.godebug = none := by kernel_rfl
theorem laid : laidOutB Tryz.prog = true := by kernel_rfl
theorem T_mixed : T.P.follows .mixedOrders = true := by kernel_rfl
theorem T_xt : ∀ g args x, T.xt g args = some x → PC T.P g args (· = x) := fun g args x h => (by have h1 : none = some x := h; cases h1)
theorem i64_of {n : Int} (h : inK .i64 n) : i64 n := h
theorem T_qt : ∀ g, T.qt g = true → CompP T.P g := fun g h => (by have h1 : false = true := h; cases h1)
theorem T_mt : ∀ g K args x, T.mt g K args = some x → MC T.P g K args (· = x) := fun g K args x h => (by have h1 : none = some x := h; cases h1)
theorem rd3 : Rd Tryz.prog 3 c_i64 i64 := (Rd.int Tryz.underlying3).map (fun x => x) (fun _ => rfl) (fun _ h => i64_of h)
theorem rd105 : Rd Tryz.prog 105 cSlot okSlot := (Rd.struct (ts := [(3, 1), (3, 1), (3, 1)]) Tryz.underlying105 (by kernel_rfl) (by kernel_rfl) (Rf.cons rd3 (Rf.cons rd3 (Rf.cons rd3 (Rf.nil _))))).map (fun x => ⟨x.1, x.2.1, x.2.2.1⟩) (fun _ => rfl) (fun _ h => ⟨h.1, h.2.1, h.2.2.1⟩)
theorem rd22 : Rd Tryz.prog 22 (fun xs : List Slot => [.imm 3 (xs.map cSlot)]) (okL okSlot) := Rd.slice (m := 3) Tryz.underlying22 (by kernel_rfl) (by decide) rd105 (fun _ => rfl)
theorem found (aNo : Int) (h1 : i64 aNo) (a : List Slot) (h2 : (okL okSlot) a) : ∃ n, CP T n 3 [.i .i64 aNo, .imm 3 (a.map cSlot)] = some (.b true) := ⟨_, by
  rw [show CP T (0 + 13) 3 _ = _ from e_laws_FnExactNewHouse 0 _, pure_FnExactNewHouse _ _ h1 h2]; rfl⟩
theorem lifted (os : Os) (started : os.Started) (H : Type) (enc : TypeId × Value → H) :
    ReturnsInHanded {} Tryz.checked os 3 .any (Rows.fnExactNewHouseSpec.pre6 enc Tryz.prog Tryz.f3 Rows.fnExactNewHouseRow.domain false) (Rows.fnExactNewHouseSpec.post enc Tryz.prog Tryz.f3 false true false false) := by
  refine returnsInHanded_of_change_sized (C := Tryz.checked) own started (by kernel_rfl) Tryz.func3
    (ChangeSpec.witness6 (enc := enc) (C := Tryz.checked) false ⟨#[], #[.int .i64 0, .slice none 0 0], []⟩ 8 (by kernel_rfl) (by kernel_rfl) (by kernel_rfl) (by kernel_rfl)) ?_
  intro W base args ds gs before hval0 hW hcnd hsz0 _
  have hval : ∀ (j : Nat) t v, Tryz.f3.params[j]? = some t → args[j]? = some v → Value.okWide Tryz.prog W .any base t v := hval0
  have hW' := hW
  obtain ⟨p, q, hA0, hV, rfl, hfz, hnd⟩ := hW
  have hA : DataW.TrodAll enc Tryz.prog W 0 (fun _ => true) true Tryz.f3.params.toList args.toList ds p := hA0
  rw [Tryz.params3] at hA hval
  obtain ⟨v1, vs1, d1, ds1, p1, q1, e1, rfl, rfl, k1, hA1⟩ := trodAll_cons hA
  obtain ⟨v2, vs2, d2, ds2, p2, q2, e2, rfl, rfl, k2, hA2⟩ := trodAll_cons hA1
  subst e2
  obtain ⟨rfl, rfl, rfl⟩ := trodAll_nil hA2
  obtain ⟨rfl, rfl⟩ := trodVars_none hV
  have hargs : args = #[v1, v2] := Array.toList_inj.1 e1
  subst hargs
  obtain ⟨x1, o1, X1⟩ := (Rv.int Tryz.underlying3).rd (hval 0 _ _ rfl rfl) k1
  obtain ⟨x2, o2, X2⟩ := (Rv.slice Tryz.underlying22 rd22).rd (hval 1 _ _ rfl rfl) k2
  obtain ⟨n, hcp⟩ := found x1 (i64_of o1) x2 o2
  have hX : XRs W FF EN [.i .i64 x1, .imm 3 (x2.map cSlot)] [v1, v2] [] := (by simp only [XRs]; exact ⟨v1, _, [], [], rfl, rfl, X1, ⟨v2, _, [], [], rfl, rfl, X2, ⟨rfl, rfl⟩⟩⟩)
  refine ((CP_ok T_ok T_mixed T_xt T_st T_qt T_mt hcp).law trivial hX).mono fun e W' ⟨he, bel⟩ => ?_
  subst he
  exact ⟨_, rfl, _, _, _, [], _, [], hW', trodAll_mk1 (shut_bool Tryz.underlying4 _), trodAll_mk2 (Below.trod laid (by kernel_rfl) (of_decide_eq_true (by kernel_rfl)) k1 bel (fun x hx => hW'.lt x (by simp [hx]))) (Below.trod laid (by kernel_rfl) (of_decide_eq_true (by kernel_rfl)) k2 bel (fun x hx => hW'.lt x (by simp [hx]))), rfl, bel.frame _, fun h => by cases h⟩
end Go.Proofs.YtcdffihcfeajfaaGreat.fnExactNewHouse
