/- Proves FnStoriesCardSaid: the law FnStories holds at every call, where the table of tens starts as the program's text lays it, and is so tied. No conditions beyond the card's own. -/
import Derived.Test.YtidclodlpdccaaaDoorRows
import Derived.Test.YtidclodlpdccaaaDoorPureFnStories
import Derived.Test.YtidclodlpdccaaaDoorEq
import Derived.Test.YtidclodlpdccaaaDoorEvD
import Derived.Test.YtidclodlpdccaaaDoorXt
import Derived.Test.YtidclodlpdccaaaDoorTie
import Derived.Test.YtidclodlpdccaaaDoorCards
import Derived.LaidMore
import Derived.LaidHandle
import Derived.MakeChecks
import Derived.Stop.LaidErr
import Derived.Lib.LaidTab
import Derived.SevenTiedAt
import Derived.Test.YtidclodlpdccaaaDoorChecked
import Derived.WalkKit
import Derived.ProofKit
import Derived.OpenShut
import Derived.ShutString
import Derived.SizedLaws
import Derived.KernelRfl
namespace Go.Proofs.YtidclodlpdccaaaDoor.fnStories
open Go Go.Proofs Go.Proofs.YtidclodlpdccaaaDoor Go.Proofs.YtidclodlpdccaaaDoor.Am Go.ChangeShapes Go.WideShapes Go.ChangeAt Go.RowKit
set_option maxHeartbeats 4000000
set_option linter.unusedVariables false
set_option linter.unusedSimpArgs false
set_option linter.defProp false
set_option maxRecDepth 100000
theorem own : ownKnob Tryd.prog.godebug = none := by kernel_rfl
theorem laid : laidOutB Tryd.prog = true := by kernel_rfl
theorem T_ok : T.ok = true := by kernel_rfl
theorem T_mixed : T.P.follows .mixedOrders = true := by kernel_rfl
theorem T_st : ∀ g, T.st g = true → SortP T.P g := fun g h => (by have h1 : false = true := h; cases h1)
theorem door_met (os : Os) (args : Array Value) : laidMetH Tryd.prog Rows.fnStoriesRow.laid ((World.doorLaid Tryd.prog 400 os).forCall (fun _ _ => 0) ⟨#[], args, []⟩).memory :=
  laidMetH_of_parts3 (fuel := 8) (laidMet_of_run' 8 (by kernel_rfl) (by kernel_rfl)) (by kernel_rfl) (by kernel_rfl)
theorem tens {W : World} (h : laidMetH Tryd.prog Rows.fnStoriesRow.laid W) : Wd.I W := by
  rw [MakeChecks.laidMetH_plain _ _ _ (by kernel_rfl)] at h
  have h3 : laidMet Tryd.prog [("internal/strconv.uint64pow10", Lib.tabData .u64 Lib.pow10Tab)] W := h.tail.tail
  exact Lib.tabIs_of_head gTens (by kernel_rfl) Tryd.underlying80 Tryd.underlying73 (by kernel_rfl) (by kernel_rfl) h3
theorem i64_of {n : Int} (h : inK .i64 n) : i64 n := h
theorem T_qt : ∀ g, T.qt g = true → CompP T.P g := fun g h => (by have h1 : false = true := h; cases h1)
theorem T_mt : ∀ g K args x, T.mt g K args = some x → MC T.P g K args (· = x) := fun g K args x h => (by have h1 : none = some x := h; cases h1)
theorem rd5 : Rd Tryd.prog 5 c_u8 (inKd .u8) := (Rd.int Tryd.underlying5).map (fun x => x) (fun _ => rfl) (fun _ h => h)
theorem rd22 : Rd Tryd.prog 22 (fun xs : List Int => [.imm 1 (xs.map c_u8)]) (okL (inKd .u8)) := Rd.slice (m := 1) Tryd.underlying22 (by kernel_rfl) (by decide) rd5 (fun _ => rfl)
theorem found (c : List Int) (h1 : (okL (inKd .u8)) c) : ∃ n, CP T n 3 [.imm 1 (c.map c_u8)] = some (.b true) := ⟨_, by
  rw [show CP T (0 + 14) 3 _ = _ from e_laws_FnStories 0, pure_FnStories _ h1]; rfl⟩
theorem lifted (os : Os) (started : os.Started) (H : Type) (enc : TypeId × Value → H) :
    ReturnsInHanded {} Tryd.checked os 3 .any (fun w args => (Rows.fnStoriesSpec.pre enc Tryd.prog Tryd.f3 [] false w args ∧ laidMetH Tryd.prog Rows.fnStoriesRow.laid w) ∧ sizedMet enc Tryd.prog Tryd.f3 (OpenSpec.ofChange Rows.fnStoriesSpec) false w args)
      (Rows.fnStoriesSpec.post enc Tryd.prog Tryd.f3 false true false false) := by
  refine returnsInHanded_of_change_and (C := Tryd.checked) (X := fun w _ => laidMetH Tryd.prog Rows.fnStoriesRow.laid w) (fun _ _ _ hh h => h.of_heap hh) own started (by kernel_rfl) Tryd.func3
    (ChangeSpec.witness_shaped (enc := enc) (C := Tryd.checked) (os := os) (X := fun w _ => laidMetH Tryd.prog Rows.fnStoriesRow.laid w) false (World.doorLaid Tryd.prog 400 os) #[.slice none 0 0] 8 rfl (World.shaped_of_RefB (by kernel_rfl) (by kernel_rfl)) (by kernel_rfl) (by kernel_rfl) (by kernel_rfl) (door_met os _)) ?_
  intro W base args ds gs before hval0 hW _ _ hL _
  have hval : ∀ (j : Nat) t v, Tryd.f3.params[j]? = some t → args[j]? = some v → Value.okWide Tryd.prog W .any base t v := hval0
  have hW' := hW
  obtain ⟨p, q, hA0, hV, rfl, hfz, hnd⟩ := hW
  have hA : DataW.TrodAll enc Tryd.prog W 0 (fun _ => true) true Tryd.f3.params.toList args.toList ds p := hA0
  rw [Tryd.params3] at hA hval
  obtain ⟨v1, vs1, d1, ds1, p1, q1, e1, rfl, rfl, k1, hA1⟩ := trodAll_cons hA
  obtain ⟨rfl, rfl, rfl⟩ := trodAll_nil hA1
  obtain ⟨rfl, rfl⟩ := trodVars_none hV
  have hargs : args = #[v1] := Array.toList_inj.1 e1
  subst hargs
  obtain ⟨x1, o1, X1⟩ := (Rv.slice Tryd.underlying22 rd22).rd (hval 0 _ _ rfl rfl) k1
  obtain ⟨n, hcp⟩ := found x1 o1
  have hX : XRs W FF EN [.imm 1 (x1.map c_u8)] [v1] [] := (by simp only [XRs]; exact ⟨v1, _, [], [], rfl, rfl, X1, ⟨rfl, rfl⟩⟩)
  refine ((CP_ok T_ok T_mixed T_xt T_st T_qt T_mt hcp).law (tens hL) hX).mono fun e W' ⟨he, bel⟩ => ?_
  subst he
  exact ⟨_, rfl, _, _, _, [], _, [], hW', trodAll_mk1 (shut_bool Tryd.underlying4 _), trodAll_mk1 (Below.trod laid (by kernel_rfl) (of_decide_eq_true (by kernel_rfl)) k1 bel (fun x hx => hW'.lt x (by simp [hx]))), rfl, bel.frame _, fun h => by cases h⟩
theorem over : Rows.fnStoriesRow.holds Tryd.pinned (OpenSpec.ofChange Rows.fnStoriesSpec) :=
  OpenClaim.holds_of_wide 3 Tryd.f3 rfl rfl rfl rfl rfl rfl rfl ⟨rfl, rfl, rfl, rfl, rfl⟩ rfl rfl rfl rfl rfl (by kernel_rfl) Tryd.func3 (by kernel_rfl)
    (of_decide_eq_true (by kernel_rfl)) (by unfold Func.isWrapper; first | (rw [if_pos (by decide +kernel)]; kernel_rfl) | (rw [if_neg (by decide +kernel)]; exact ⟨rfl, rfl⟩))
    (fun os started H enc _ => lifted os started H enc)
theorem card : Rows.FnStoriesCardSaid :=
  Claim7.holds_tied_plain_at .later [] [.data, .data, .data] true (true, "f5d15f23c567a53f54016b1b28a6dbba181be9d6b6bfbc99e0cb55900cff5c0d") false
    over (fun _ h => by cases h) (by kernel_rfl) (fun _ h => by cases h) fnStories_row_tie rfl ⟨rfl, rfl⟩ (by kernel_rfl) rfl
    (fun f fn hf hfn => by
      obtain rfl : f = 3 := Option.some.inj ((show Tryd.prog.funcNamed "loop.example/g03007/laws.FnStories" = some 3 by kernel_rfl).symm.trans hf) |>.symm
      obtain rfl : fn = Tryd.f3 := (Option.some.inj (Tryd.func3.symm.trans hfn)).symm
      exact ⟨by kernel_rfl, fun j t ht => by
        rw [Tryd.params3] at ht
        have hm : t ∈ [22] := by simpa using Array.mem_of_getElem? ht
        have hall : ([22].all fun u => !Tryd.prog.wantsStandIn u) = true := by kernel_rfl
        exact (show Tryd.prog.wantsStandIn t = false by simpa using List.all_eq_true.1 hall t hm)⟩)
    (by kernel_rfl)
#print axioms card
end Go.Proofs.YtidclodlpdccaaaDoor.fnStories
namespace Go.Proofs.YtidclodlpdccaaaDoor
/-- The card, under a short name, for the claim. -/
theorem fnStories_holds : Rows.FnStoriesCardSaid := fnStories.card
end Go.Proofs.YtidclodlpdccaaaDoor
