/- Proves FnExactStoryOfCardSaid: the law FnExactStoryOf holds at every call, where the table of tens starts as the program's text lays it, and is so tied. No conditions beyond the card's own. -/
import Derived.Test.YtaajilepbclmfaaDoorRows
import Derived.Test.YtaajilepbclmfaaDoorPureFnExactStoryOf
import Derived.Test.YtaajilepbclmfaaDoorEq
import Derived.Test.YtaajilepbclmfaaDoorRd1
import Derived.Test.YtaajilepbclmfaaDoorXt
import Derived.Test.YtaajilepbclmfaaDoorTie
import Derived.Test.YtaajilepbclmfaaDoorCards
import Derived.LaidMore
import Derived.LaidHandle
import Derived.MakeChecks
import Derived.Stop.LaidErr
import Derived.Lib.LaidTab
import Derived.SevenTiedAt
import Derived.Test.YtaajilepbclmfaaDoorChecked
import Derived.WalkKit
import Derived.ProofKit
import Derived.OpenShut
import Derived.ShutString
import Derived.SizedLaws
import Derived.KernelRfl
namespace Go.Proofs.YtaajilepbclmfaaDoor.fnExactStoryOf
open Go Go.Proofs Go.Proofs.YtaajilepbclmfaaDoor Go.Proofs.YtaajilepbclmfaaDoor.Am Go.ChangeShapes Go.WideShapes Go.ChangeAt Go.RowKit
set_option linter.unusedVariables false
set_option linter.unusedSimpArgs false
set_option linter.defProp false
set_option maxRecDepth 100000
theorem own : ownKnob Tryd.prog.godebug = none := by kernel_rfl
theorem laid : laidOutB Tryd.prog = true := by kernel_rfl
theorem T_ok : T.ok = true := by kernel_rfl
theorem T_mixed : T.P.follows .mixedOrders = true := by kernel_rfl
theorem T_st : ∀ g, T.st g = true → SortP T.P g := fun g h => (by have h1 : false = true := h; cases h1)
theorem door_met (os : Os) (args : Array Value) : laidMetH Tryd.prog Rows.fnExactStoryOfRow.laid ((World.doorLaid Tryd.prog 400 os).forCall (fun _ _ => 0) ⟨#[], args, []⟩).memory :=
  laidMetH_of_parts3 (fuel := 8) (laidMet_of_run' 8 (by kernel_rfl) (by kernel_rfl)) (by kernel_rfl) (by kernel_rfl)
theorem tens {W : World} (h : laidMetH Tryd.prog Rows.fnExactStoryOfRow.laid W) : Wd.I W := by
  rw [MakeChecks.laidMetH_plain _ _ _ (by kernel_rfl)] at h
  have h3 : laidMet Tryd.prog [("internal/strconv.uint64pow10", Lib.tabData .u64 Lib.pow10Tab)] W := h.tail.tail
  exact Lib.tabIs_of_head gTens (by kernel_rfl) Tryd.underlying173 Tryd.underlying166 (by kernel_rfl) (by kernel_rfl) h3
theorem i64_of {n : Int} (h : inK .i64 n) : i64 n := h
theorem rd3 : Rd Tryd.prog 3 c_i64 i64 := (Rd.int Tryd.underlying3).map (fun x => x) (fun _ => rfl) (fun _ h => i64_of h)
theorem rd96 : Rd Tryd.prog 96 cHand okHand := (Rd.struct (ts := [(3, 1), (3, 1), (3, 1), (3, 1), (3, 1)]) Tryd.underlying96 (by kernel_rfl) (by kernel_rfl) (Rf.cons rd3 (Rf.cons rd3 (Rf.cons rd3 (Rf.cons rd3 (Rf.cons rd3 (Rf.nil _))))))).map (fun x => ⟨x.1, x.2.1, x.2.2.1, x.2.2.2.1, x.2.2.2.2.1⟩) (fun _ => rfl) (fun _ h => ⟨h.1, h.2.1, h.2.2.1, h.2.2.2.1, h.2.2.2.2.1⟩)
theorem rd50 : Rd Tryd.prog 50 (fun xs : List Hand => [.imm 5 (xs.map cHand)]) (okL okHand) := Rd.slice (m := 5) Tryd.underlying50 (by kernel_rfl) (by decide) rd96 (fun _ => rfl)
theorem found (aL : List Hand) (h1 : (okL okHand) aL) (aThing : Int) (h2 : i64 aThing) : ∃ n, CP T n 8 [.imm 5 (aL.map cHand), .i .i64 aThing] = some (.b true) := ⟨_, by
  rw [show CP T (0 + 5) 8 _ = _ from e_laws_FnExactStoryOf 0 _, pure_FnExactStoryOf _ _ h1 h2]; rfl⟩
theorem lifted (os : Os) (started : os.Started) (H : Type) (enc : TypeId × Value → H) :
    ReturnsInHanded {} Tryd.checked os 8 .any (fun w args => (Rows.fnExactStoryOfSpec.pre enc Tryd.prog Tryd.f8 [] false w args ∧ laidMetH Tryd.prog Rows.fnExactStoryOfRow.laid w) ∧ sizedMet enc Tryd.prog Tryd.f8 (OpenSpec.ofChange Rows.fnExactStoryOfSpec) false w args)
      (Rows.fnExactStoryOfSpec.post enc Tryd.prog Tryd.f8 false true false false) := by
  refine returnsInHanded_of_change_and (C := Tryd.checked) (X := fun w _ => laidMetH Tryd.prog Rows.fnExactStoryOfRow.laid w) (fun _ _ _ hh h => h.of_heap hh) own started (by kernel_rfl) Tryd.func8
    (ChangeSpec.witness_shaped (enc := enc) (C := Tryd.checked) (os := os) (X := fun w _ => laidMetH Tryd.prog Rows.fnExactStoryOfRow.laid w) false (World.doorLaid Tryd.prog 400 os) #[.slice none 0 0, .int .i64 0] 8 rfl (World.shaped_of_RefB (by kernel_rfl) (by kernel_rfl)) (by kernel_rfl) (by kernel_rfl) (by kernel_rfl) (door_met os _)) ?_
  intro W base args ds gs before hval0 hW _ _ hL _
  have hval : ∀ (j : Nat) t v, Tryd.f8.params[j]? = some t → args[j]? = some v → Value.okWide Tryd.prog W .any base t v := hval0
  have hW' := hW
  obtain ⟨p, q, hA0, hV, rfl, hfz, hnd⟩ := hW
  have hA : DataW.TrodAll enc Tryd.prog W 0 (fun _ => true) true Tryd.f8.params.toList args.toList ds p := hA0
  rw [Tryd.params8] at hA hval
  obtain ⟨v1, vs1, d1, ds1, p1, q1, e1, rfl, rfl, k1, hA1⟩ := trodAll_cons hA
  obtain ⟨v2, vs2, d2, ds2, p2, q2, e2, rfl, rfl, k2, hA2⟩ := trodAll_cons hA1
  subst e2
  obtain ⟨rfl, rfl, rfl⟩ := trodAll_nil hA2
  obtain ⟨rfl, rfl⟩ := trodVars_none hV
  have hargs : args = #[v1, v2] := Array.toList_inj.1 e1
  subst hargs
  obtain ⟨x1, o1, X1⟩ := (Rv.slice Tryd.underlying50 rd50).rd (hval 0 _ _ rfl rfl) k1
  obtain ⟨x2, o2, X2⟩ := (Rv.int Tryd.underlying3).rd (hval 1 _ _ rfl rfl) k2
  obtain ⟨n, hcp⟩ := found x1 o1 x2 (i64_of o2)
  have hX : XRs W FF EN [.imm 5 (x1.map cHand), .i .i64 x2] [v1, v2] [] := (by simp only [XRs]; exact ⟨v1, _, [], [], rfl, rfl, X1, ⟨v2, _, [], [], rfl, rfl, X2, ⟨rfl, rfl⟩⟩⟩)
  refine ((CP_ok T_ok T_mixed T_xt T_st hcp).law (tens hL) hX).mono fun e W' ⟨he, bel⟩ => ?_
  subst he
  exact ⟨_, rfl, _, _, _, [], _, [], hW', trodAll_mk1 (shut_bool Tryd.underlying4 _), trodAll_mk2 (Below.trod laid (by kernel_rfl) (of_decide_eq_true (by kernel_rfl)) k1 bel (fun x hx => hW'.lt x (by simp [hx]))) (Below.trod laid (by kernel_rfl) (of_decide_eq_true (by kernel_rfl)) k2 bel (fun x hx => hW'.lt x (by simp [hx]))), rfl, bel.frame _, fun h => by cases h⟩
theorem over : Rows.fnExactStoryOfRow.holds Tryd.pinned (OpenSpec.ofChange Rows.fnExactStoryOfSpec) :=
  OpenClaim.holds_of_wide 8 Tryd.f8 rfl rfl rfl rfl rfl rfl rfl ⟨rfl, rfl, rfl, rfl, rfl⟩ rfl rfl rfl rfl rfl (by kernel_rfl) Tryd.func8 (by kernel_rfl)
    (of_decide_eq_true (by kernel_rfl)) (by unfold Func.isWrapper; first | (rw [if_pos (by decide +kernel)]; kernel_rfl) | (rw [if_neg (by decide +kernel)]; exact ⟨rfl, rfl⟩))
    (fun os started H enc _ => lifted os started H enc)
theorem card : Rows.FnExactStoryOfCardSaid :=
  Claim7.holds_tied_plain_at .later [] [.data, .data, .data] true (true, "a2bcd981e3a8ab0d796de982fd57142887fd80a9acba267be48c0d5c13c9d4bf") false
    over (fun _ h => by cases h) (by kernel_rfl) (fun _ h => by cases h) fnExactStoryOf_row_tie rfl ⟨rfl, rfl⟩ (by kernel_rfl) rfl
    (fun f fn hf hfn => by
      obtain rfl : f = 8 := Option.some.inj ((show Tryd.prog.funcNamed "loop.example/g03007/laws.FnExactStoryOf" = some 8 by kernel_rfl).symm.trans hf) |>.symm
      obtain rfl : fn = Tryd.f8 := (Option.some.inj (Tryd.func8.symm.trans hfn)).symm
      exact ⟨by kernel_rfl, fun j t ht => by
        rw [Tryd.params8] at ht
        have hm : t ∈ [50, 3] := by simpa using Array.mem_of_getElem? ht
        have hall : ([50, 3].all fun u => !Tryd.prog.wantsStandIn u) = true := by kernel_rfl
        exact (show Tryd.prog.wantsStandIn t = false by simpa using List.all_eq_true.1 hall t hm)⟩)
    (by kernel_rfl)
#print axioms card
end Go.Proofs.YtaajilepbclmfaaDoor.fnExactStoryOf
namespace Go.Proofs.YtaajilepbclmfaaDoor
/-- The card, under a short name, for the claim. -/
theorem fnExactStoryOf_holds : Rows.FnExactStoryOfCardSaid := fnExactStoryOf.card
end Go.Proofs.YtaajilepbclmfaaDoor
