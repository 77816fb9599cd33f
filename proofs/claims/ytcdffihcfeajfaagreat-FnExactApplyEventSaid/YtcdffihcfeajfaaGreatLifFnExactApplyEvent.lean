import Derived.Test.YtcdffihcfeajfaaGreatRows
import Derived.Test.YtcdffihcfeajfaaGreatPureFnExactApplyEvent
import Derived.Test.YtcdffihcfeajfaaGreatEq
import Derived.Test.YtcdffihcfeajfaaGreatEvD
import Derived.Test.YtcdffihcfeajfaaGreatZm
import Derived.Test.YtcdffihcfeajfaaGreatZt
import Derived.Test.YtcdffihcfeajfaaGreatOk
import Derived.Test.YtcdffihcfeajfaaGreatChecked
import Derived.WalkKit
import Derived.ProofKit
import Derived.OpenShut
import Derived.ShutString
import Derived.SizedLaws
import Derived.KernelRfl
namespace Go.Proofs.YtcdffihcfeajfaaGreat.fnExactApplyEvent
open Go Go.Proofs Go.Proofs.YtcdffihcfeajfaaGreat Go.Proofs.YtcdffihcfeajfaaGreat.Am Go.ChangeShapes Go.WideShapes Go.ChangeAt Go.RowKit
set_option maxHeartbeats 4000000
set_option linter.unusedVariables false
set_option linter.unusedSimpArgs false
set_option linter.defProp false
set_option maxRecDepth 100000
theorem own : ownKnob Tryz.prog.godebug = none := by kernel_rfl
theorem laid : laidOutB Tryz.prog = true := by kernel_rfl
theorem T_mixed : T.P.follows .mixedOrders = true := by kernel_rfl
theorem T_xt : ∀ g args x, T.xt g args = some x → PC T.P g args (· = x) := fun g args x h => (by have h1 : none = some x := h; cases h1)
theorem i64_of {n : Int} (h : inK .i64 n) : i64 n := h
theorem T_qt : ∀ g, T.qt g = true → CompP T.P g := fun g h => (by have h1 : false = true := h; cases h1)
theorem T_mt : ∀ g K args x, T.mt g K args = some x → MC T.P g K args (· = x) := QHm (tb := [(115, (4, 32)), (201, (5, 40)), (218, (8, 64)), (219, (3, 40))]) (List.forall_mem_cons.2 ⟨QIF, List.forall_mem_cons.2 ⟨QJQ, List.forall_mem_cons.2 ⟨QI4, List.forall_mem_cons.2 ⟨QPu, fun _ h => by cases h⟩⟩⟩⟩)
theorem rd3 : Rd Tryz.prog 3 Vf i64 := (Rd.int Tryz.underlying3).map (fun x => x) (fun _ => rfl) (fun _ h => i64_of h)
theorem rd58 : Rd Tryz.prog 58 ZR Que := (Rd.struct (ts := [(3, 1), (3, 1), (3, 1), (3, 1), (3, 1)]) Tryz.underlying58 (by kernel_rfl) (by kernel_rfl) (Rf.cons rd3 (Rf.cons rd3 (Rf.cons rd3 (Rf.cons rd3 (Rf.cons rd3 (Rf.nil _))))))).map (fun x => ⟨x.1, x.2.1, x.2.2.1, x.2.2.2.1, x.2.2.2.2.1⟩) (fun _ => rfl) (fun _ h => ⟨h.1, h.2.1, h.2.2.1, h.2.2.2.1, h.2.2.2.2.1⟩)
theorem rd60 : Rd Tryz.prog 60 Qv Qp5 := (Rd.struct (ts := [(58, 5), (3, 1), (3, 1), (3, 1)]) Tryz.underlying60 (by kernel_rfl) (by kernel_rfl) (Rf.cons rd58 (Rf.cons rd3 (Rf.cons rd3 (Rf.cons rd3 (Rf.nil _)))))).map (fun x => ⟨x.1, x.2.1, x.2.2.1, x.2.2.2.1⟩) (fun _ => rfl) (fun _ h => ⟨h.1, h.2.1, h.2.2.1, h.2.2.2.1⟩)
theorem rd41 : Rd Tryz.prog 41 (fun xs : List Find => [.imm 8 (xs.map Qv)]) (okL Qp5) := Rd.slice (m := 8) Tryz.underlying41 (by kernel_rfl) (by decide) rd60 (fun _ => rfl)
theorem rd171 : Rd Tryz.prog 171 Q9 QqK := (Rd.struct (ts := [(3, 1), (3, 1)]) Tryz.underlying171 (by kernel_rfl) (by kernel_rfl) (Rf.cons rd3 (Rf.cons rd3 (Rf.nil _)))).map (fun x => ⟨x.1, x.2.1⟩) (fun _ => rfl) (fun _ h => ⟨h.1, h.2.1⟩)
theorem rd61 : Rd Tryz.prog 61 (fun xs : List Mark => [.imm 2 (xs.map Q9)]) (okL QqK) := Rd.slice (m := 2) Tryz.underlying61 (by kernel_rfl) (by decide) rd171 (fun _ => rfl)
theorem rd200 : Rd Tryz.prog 200 QC Qhk := (Rd.struct (ts := [(3, 1), (61, 1), (3, 1)]) Tryz.underlying200 (by kernel_rfl) (by kernel_rfl) (Rf.cons rd3 (Rf.cons rd61 (Rf.cons rd3 (Rf.nil _))))).map (fun x => ⟨x.1, x.2.1, x.2.2.1⟩) (fun _ => rfl) (fun _ h => ⟨h.1, h.2.1, h.2.2.1⟩)
theorem rd42 : Rd Tryz.prog 42 (fun xs : List Secret => [.imm 3 (xs.map QC)]) (okL Qhk) := Rd.slice (m := 3) Tryz.underlying42 (by kernel_rfl) (by decide) rd200 (fun _ => rfl)
theorem rd105 : Rd Tryz.prog 105 QP QsV := (Rd.struct (ts := [(3, 1), (3, 1), (3, 1)]) Tryz.underlying105 (by kernel_rfl) (by kernel_rfl) (Rf.cons rd3 (Rf.cons rd3 (Rf.cons rd3 (Rf.nil _))))).map (fun x => ⟨x.1, x.2.1, x.2.2.1⟩) (fun _ => rfl) (fun _ h => ⟨h.1, h.2.1, h.2.2.1⟩)
theorem rd22 : Rd Tryz.prog 22 (fun xs : List Slot => [.imm 3 (xs.map QP)]) (okL QsV) := Rd.slice (m := 3) Tryz.underlying22 (by kernel_rfl) (by decide) rd105 (fun _ => rfl)
theorem rd203 : Rd Tryz.prog 203 Qg QqL := (Rd.struct (ts := [(3, 1), (3, 1), (3, 1), (3, 1), (3, 1)]) Tryz.underlying203 (by kernel_rfl) (by kernel_rfl) (Rf.cons rd3 (Rf.cons rd3 (Rf.cons rd3 (Rf.cons rd3 (Rf.cons rd3 (Rf.nil _))))))).map (fun x => ⟨x.1, x.2.1, x.2.2.1, x.2.2.2.1, x.2.2.2.2.1⟩) (fun _ => rfl) (fun _ h => ⟨h.1, h.2.1, h.2.2.1, h.2.2.2.1, h.2.2.2.2.1⟩)
theorem rd43 : Rd Tryz.prog 43 (fun xs : List Claim => [.imm 5 (xs.map Qg)]) (okL QqL) := Rd.slice (m := 5) Tryz.underlying43 (by kernel_rfl) (by decide) rd203 (fun _ => rfl)
theorem rd205 : Rd Tryz.prog 205 QJ Qqf := (Rd.struct (ts := [(3, 1), (3, 1), (3, 1), (3, 1)]) Tryz.underlying205 (by kernel_rfl) (by kernel_rfl) (Rf.cons rd3 (Rf.cons rd3 (Rf.cons rd3 (Rf.cons rd3 (Rf.nil _)))))).map (fun x => ⟨x.1, x.2.1, x.2.2.1, x.2.2.2.1⟩) (fun _ => rfl) (fun _ h => ⟨h.1, h.2.1, h.2.2.1, h.2.2.2.1⟩)
theorem rd44 : Rd Tryz.prog 44 (fun xs : List Trial => [.imm 4 (xs.map QJ)]) (okL Qqf) := Rd.slice (m := 4) Tryz.underlying44 (by kernel_rfl) (by decide) rd205 (fun _ => rfl)
theorem rd207 : Rd Tryz.prog 207 Va Qt5 := (Rd.struct (ts := [(3, 1), (3, 1), (3, 1), (3, 1), (3, 1)]) Tryz.underlying207 (by kernel_rfl) (by kernel_rfl) (Rf.cons rd3 (Rf.cons rd3 (Rf.cons rd3 (Rf.cons rd3 (Rf.cons rd3 (Rf.nil _))))))).map (fun x => ⟨x.1, x.2.1, x.2.2.1, x.2.2.2.1, x.2.2.2.2.1⟩) (fun _ => rfl) (fun _ h => ⟨h.1, h.2.1, h.2.2.1, h.2.2.2.1, h.2.2.2.2.1⟩)
theorem rd45 : Rd Tryz.prog 45 (fun xs : List Hand => [.imm 5 (xs.map Va)]) (okL Qt5) := Rd.slice (m := 5) Tryz.underlying45 (by kernel_rfl) (by decide) rd207 (fun _ => rfl)
theorem rd209 : Rd Tryz.prog 209 QX Qqs := (Rd.struct (ts := [(3, 1), (3, 1), (3, 1), (3, 1)]) Tryz.underlying209 (by kernel_rfl) (by kernel_rfl) (Rf.cons rd3 (Rf.cons rd3 (Rf.cons rd3 (Rf.cons rd3 (Rf.nil _)))))).map (fun x => ⟨x.1, x.2.1, x.2.2.1, x.2.2.2.1⟩) (fun _ => rfl) (fun _ h => ⟨h.1, h.2.1, h.2.2.1, h.2.2.2.1⟩)
theorem rd46 : Rd Tryz.prog 46 (fun xs : List Entry => [.imm 4 (xs.map QX)]) (okL Qqs) := Rd.slice (m := 4) Tryz.underlying46 (by kernel_rfl) (by decide) rd209 (fun _ => rfl)
theorem rd48 : Rd Tryz.prog 48 QD QmV := (Rd.struct (ts := [(3, 1), (41, 1), (42, 1), (22, 1), (43, 1), (44, 1), (45, 1), (46, 1), (3, 1)]) Tryz.underlying48 (by kernel_rfl) (by kernel_rfl) (Rf.cons rd3 (Rf.cons rd41 (Rf.cons rd42 (Rf.cons rd22 (Rf.cons rd43 (Rf.cons rd44 (Rf.cons rd45 (Rf.cons rd46 (Rf.cons rd3 (Rf.nil _))))))))))).map (fun x => ⟨x.1, x.2.1, x.2.2.1, x.2.2.2.1, x.2.2.2.2.1, x.2.2.2.2.2.1, x.2.2.2.2.2.2.1, x.2.2.2.2.2.2.2.1, x.2.2.2.2.2.2.2.2.1⟩) (fun _ => rfl) (fun _ h => ⟨h.1, h.2.1, h.2.2.1, h.2.2.2.1, h.2.2.2.2.1, h.2.2.2.2.2.1, h.2.2.2.2.2.2.1, h.2.2.2.2.2.2.2.1, h.2.2.2.2.2.2.2.2.1⟩)
theorem rd182 : Rd Tryz.prog 182 Vu Qyt := (Rd.struct (ts := [(3, 1), (3, 1), (3, 1)]) Tryz.underlying182 (by kernel_rfl) (by kernel_rfl) (Rf.cons rd3 (Rf.cons rd3 (Rf.cons rd3 (Rf.nil _))))).map (fun x => ⟨x.1, x.2.1, x.2.2.1⟩) (fun _ => rfl) (fun _ h => ⟨h.1, h.2.1, h.2.2.1⟩)
theorem rd73 : Rd Tryz.prog 73 (fun xs : List Bid => [.imm 3 (xs.map Vu)]) (okL Qyt) := Rd.slice (m := 3) Tryz.underlying73 (by kernel_rfl) (by decide) rd182 (fun _ => rfl)
theorem rd82 : Rd Tryz.prog 82 QdZ Qm1 := (Rd.struct (ts := [(3, 1), (60, 8), (61, 1), (3, 1), (3, 1), (3, 1), (73, 1)]) Tryz.underlying82 (by kernel_rfl) (by kernel_rfl) (Rf.cons rd3 (Rf.cons rd60 (Rf.cons rd61 (Rf.cons rd3 (Rf.cons rd3 (Rf.cons rd3 (Rf.cons rd73 (Rf.nil _))))))))).map (fun x => ⟨x.1, x.2.1, x.2.2.1, x.2.2.2.1, x.2.2.2.2.1, x.2.2.2.2.2.1, x.2.2.2.2.2.2.1⟩) (fun _ => rfl) (fun _ h => ⟨h.1, h.2.1, h.2.2.1, h.2.2.2.1, h.2.2.2.2.1, h.2.2.2.2.2.1, h.2.2.2.2.2.2.1⟩)
theorem found (a : House) (h1 : QmV a) (a2 : Event) (h2 : Qm1 a2) : ∃ n, CP T n 11 [.agg (QD a), .agg (QdZ a2)] = some (.b true) := ⟨_, by
 rw [show CP T (0 + 15) 11 _ = _ from Qfy 0, Qgg _ _ h1 h2]; rfl⟩
theorem lifted (os : Os) (started : os.Started) (H : Type) (enc : TypeId × Value → H) :
  ReturnsInHanded {} Tryz.checked os 11 .any (Rows.fnExactApplyEventSpec.pre6 enc Tryz.prog Tryz.f11 Rows.fnExactApplyEventRow.domain false) (Rows.fnExactApplyEventSpec.post enc Tryz.prog Tryz.f11 false true false false) := by
 refine returnsInHanded_of_change_sized (C := Tryz.checked) own started (by kernel_rfl) Tryz.func11
  (ChangeSpec.witness6 (enc := enc) (C := Tryz.checked) false ⟨#[], #[.agg #[.int .i64 0, .slice none 0 0, .slice none 0 0, .slice none 0 0, .slice none 0 0, .slice none 0 0, .slice none 0 0, .slice none 0 0, .int .i64 0], .agg #[.int .i64 0, .int .i64 0, .int .i64 0, .int .i64 0, .int .i64 0, .int .i64 0, .int .i64 0, .int .i64 0, .int .i64 0, .slice none 0 0, .int .i64 0, .int .i64 0, .int .i64 0, .slice none 0 0]], []⟩ 8 (by kernel_rfl) (by kernel_rfl) (by kernel_rfl) (by kernel_rfl)) ?_
 intro W base args ds gs before hval0 hW hcnd hsz0 _
 have hval : ∀ (j : Nat) t v, Tryz.f11.params[j]? = some t → args[j]? = some v → Value.okWide Tryz.prog W .any base t v := hval0
 have hW' := hW
 obtain ⟨p, q, hA0, hV, rfl, hfz, hnd⟩ := hW
 have hA : DataW.TrodAll enc Tryz.prog W 0 (fun _ => true) true Tryz.f11.params.toList args.toList ds p := hA0
 rw [Tryz.params11] at hA hval
 obtain ⟨v1, vs1, d1, ds1, p1, q1, e1, rfl, rfl, k1, hA1⟩ := trodAll_cons hA
 obtain ⟨v2, vs2, d2, ds2, p2, q2, e2, rfl, rfl, k2, hA2⟩ := trodAll_cons hA1
 subst e2
 obtain ⟨rfl, rfl, rfl⟩ := trodAll_nil hA2
 obtain ⟨rfl, rfl⟩ := trodVars_none hV
 have hargs : args = #[v1, v2] := Array.toList_inj.1 e1
 subst hargs
 obtain ⟨x1, o1, X1⟩ := (Rv.struct Tryz.underlying48 rd48).rd (hval 0 _ _ rfl rfl) k1
 obtain ⟨x2, o2, X2⟩ := (Rv.struct Tryz.underlying82 rd82).rd (hval 1 _ _ rfl rfl) k2
 obtain ⟨n, hcp⟩ := found x1 o1 x2 o2
 have hX : XRs W FF EN [.agg (QD x1), .agg (QdZ x2)] [v1, v2] [] := (by simp only [XRs]; exact ⟨v1, _, [], [], rfl, rfl, X1, ⟨v2, _, [], [], rfl, rfl, X2, ⟨rfl, rfl⟩⟩⟩)
 refine ((QM5 QTi T_mixed T_xt QRA T_qt T_mt hcp).law trivial hX).mono fun e W' ⟨he, bel⟩ => ?_
 subst he
 exact ⟨_, rfl, _, _, _, [], _, [], hW', trodAll_mk1 (shut_bool Tryz.underlying4 _), trodAll_mk2 (Below.trod laid (by kernel_rfl) (of_decide_eq_true (by kernel_rfl)) k1 bel (fun x hx => hW'.lt x (by simp [hx]))) (Below.trod laid (by kernel_rfl) (of_decide_eq_true (by kernel_rfl)) k2 bel (fun x hx => hW'.lt x (by simp [hx]))), rfl, bel.frame _, fun h => by cases h⟩
end Go.Proofs.YtcdffihcfeajfaaGreat.fnExactApplyEvent
