/- Proves FnViewsCardSaid: the law FnViews holds at every call, where the table of tens starts as the program's text lays it, and is so tied. No conditions beyond the card's own. -/
import Derived.Test.YtkbilciipmijjaaGreatDoorRows
import Derived.Test.YtkbilciipmijjaaGreatDoorPureFnViews
import Derived.Test.YtkbilciipmijjaaGreatDoorEq
import Derived.Test.YtkbilciipmijjaaGreatDoorEvD
import Derived.Test.YtkbilciipmijjaaGreatDoorXt
import Derived.Test.YtkbilciipmijjaaGreatDoorTie
import Derived.Test.YtkbilciipmijjaaGreatDoorCards
import Derived.LaidMore
import Derived.LaidHandle
import Derived.MakeChecks
import Derived.Stop.LaidErr
import Derived.Lib.LaidTab
import Derived.SevenTiedAt
import Derived.Test.YtkbilciipmijjaaGreatDoorOk
import Derived.Test.YtkbilciipmijjaaGreatDoorChecked
import Derived.WalkKit
import Derived.ProofKit
import Derived.OpenShut
import Derived.ShutString
import Derived.SizedLaws
import Derived.KernelRfl
namespace Go.Proofs.YtkbilciipmijjaaGreatDoor.fnViews
open Go Go.Proofs Go.Proofs.YtkbilciipmijjaaGreatDoor Go.Proofs.YtkbilciipmijjaaGreatDoor.Am Go.ChangeShapes Go.WideShapes Go.ChangeAt Go.RowKit
set_option maxHeartbeats 4000000
set_option linter.unusedVariables false
set_option linter.unusedSimpArgs false
set_option linter.defProp false
set_option maxRecDepth 100000
theorem own : ownKnob Tryz.prog.godebug = none := by kernel_rfl
theorem laid : laidOutB Tryz.prog = true := by kernel_rfl
theorem T_mixed : T.P.follows .mixedOrders = true := by kernel_rfl
theorem T_st : ∀ g, T.st g = true → SortP T.P g := fun g h => (by have h1 : false = true := h; cases h1)
theorem door_met (os : Os) (args : Array Value) : laidMetH Tryz.prog Rows.fnViewsRow.laid ((World.doorLaid Tryz.prog 400 os).forCall (fun _ _ => 0) ⟨#[], args, []⟩).memory :=
  laidMetH_of_parts3 (fuel := 8) (laidMet_of_run' 8 (by kernel_rfl) (by kernel_rfl)) (by kernel_rfl) (by kernel_rfl)
theorem tens {W : World} (h : laidMetH Tryz.prog Rows.fnViewsRow.laid W) : Wd.I W := by
  rw [MakeChecks.laidMetH_plain _ _ _ (by kernel_rfl)] at h
  have h3 : laidMet Tryz.prog [("internal/strconv.uint64pow10", Lib.tabData .u64 Lib.pow10Tab)] W := h.tail.tail
  exact Lib.tabIs_of_head gTens (by kernel_rfl) Tryz.underlying135 Tryz.underlying109 (by kernel_rfl) (by kernel_rfl) h3
theorem i64_of {n : Int} (h : inK .i64 n) : i64 n := h
theorem T_qt : ∀ g, T.qt g = true → CompP T.P g := fun g h => (by have h1 : false = true := h; cases h1)
theorem T_mt : ∀ g K args x, T.mt g K args = some x → MC T.P g K args (· = x) := fun g K args x h => (by have h1 : none = some x := h; cases h1)
theorem rd5 : Rd Tryz.prog 5 c_u8 (inKd .u8) := (Rd.int Tryz.underlying5).map (fun x => x) (fun _ => rfl) (fun _ h => h)
theorem rd22 : Rd Tryz.prog 22 (fun xs : List Int => [.imm 1 (xs.map c_u8)]) (okL (inKd .u8)) := Rd.slice (m := 1) Tryz.underlying22 (by kernel_rfl) (by decide) rd5 (fun _ => rfl)
theorem found (c : List Int) (h1 : (okL (inKd .u8)) c) : ∃ n, CP T n 3 [.imm 1 (c.map c_u8)] = some (.b true) := ⟨_, by
  rw [show CP T (0 + 16) 3 _ = _ from e_laws_FnViews 0, pure_FnViews _ h1]; rfl⟩
theorem lifted (os : Os) (started : os.Started) (H : Type) (enc : TypeId × Value → H) :
    ReturnsInHanded {} Tryz.checked os 3 .any (fun w args => (Rows.fnViewsSpec.pre enc Tryz.prog Tryz.f3 [] false w args ∧ laidMetH Tryz.prog Rows.fnViewsRow.laid w) ∧ sizedMet enc Tryz.prog Tryz.f3 (OpenSpec.ofChange Rows.fnViewsSpec) false w args)
      (Rows.fnViewsSpec.post enc Tryz.prog Tryz.f3 false true false false) := by
  refine returnsInHanded_of_change_and (C := Tryz.checked) (X := fun w _ => laidMetH Tryz.prog Rows.fnViewsRow.laid w) (fun _ _ _ hh h => h.of_heap hh) own started (by kernel_rfl) Tryz.func3
    (ChangeSpec.witness_shaped (enc := enc) (C := Tryz.checked) (os := os) (X := fun w _ => laidMetH Tryz.prog Rows.fnViewsRow.laid w) false (World.doorLaid Tryz.prog 400 os) #[.slice none 0 0] 8 rfl (World.shaped_of_RefB (by kernel_rfl) (by kernel_rfl)) (by kernel_rfl) (by kernel_rfl) (by kernel_rfl) (door_met os _)) ?_
  intro W base args ds gs before hval0 hW _ _ hL _
  have hval : ∀ (j : Nat) t v, Tryz.f3.params[j]? = some t → args[j]? = some v → Value.okWide Tryz.prog W .any base t v := hval0
  have hW' := hW
  obtain ⟨p, q, hA0, hV, rfl, hfz, hnd⟩ := hW
  have hA : DataW.TrodAll enc Tryz.prog W 0 (fun _ => true) true Tryz.f3.params.toList args.toList ds p := hA0
  rw [Tryz.params3] at hA hval
  obtain ⟨v1, vs1, d1, ds1, p1, q1, e1, rfl, rfl, k1, hA1⟩ := trodAll_cons hA
  obtain ⟨rfl, rfl, rfl⟩ := trodAll_nil hA1
  obtain ⟨rfl, rfl⟩ := trodVars_none hV
  have hargs : args = #[v1] := Array.toList_inj.1 e1
  subst hargs
  obtain ⟨x1, o1, X1⟩ := (Rv.slice Tryz.underlying22 rd22).rd (hval 0 _ _ rfl rfl) k1
  obtain ⟨n, hcp⟩ := found x1 o1
  have hX : XRs W FF EN [.imm 1 (x1.map c_u8)] [v1] [] := (by simp only [XRs]; exact ⟨v1, _, [], [], rfl, rfl, X1, ⟨rfl, rfl⟩⟩)
  refine ((CP_ok T_ok T_mixed T_xt T_st T_qt T_mt hcp).law (tens hL) hX).mono fun e W' ⟨he, bel⟩ => ?_
  subst he
  exact ⟨_, rfl, _, _, _, [], _, [], hW', trodAll_mk1 (shut_bool Tryz.underlying4 _), trodAll_mk1 (Below.trod laid (by kernel_rfl) (of_decide_eq_true (by kernel_rfl)) k1 bel (fun x hx => hW'.lt x (by simp [hx]))), rfl, bel.frame _, fun h => by cases h⟩
theorem over : Rows.fnViewsRow.holds Tryz.pinned (OpenSpec.ofChange Rows.fnViewsSpec) :=
  OpenClaim.holds_of_wide 3 Tryz.f3 rfl rfl rfl rfl rfl rfl rfl ⟨rfl, rfl, rfl, rfl, rfl⟩ rfl rfl rfl rfl rfl (by kernel_rfl) Tryz.func3 (by kernel_rfl)
    (of_decide_eq_true (by kernel_rfl)) (by unfold Func.isWrapper; first | (rw [if_pos (by decide +kernel)]; kernel_rfl) | (rw [if_neg (by decide +kernel)]; exact ⟨rfl, rfl⟩))
    (fun os started H enc _ => lifted os started H enc)
theorem card : Rows.FnViewsCardSaid :=
  Claim7.holds_tied_plain_at .later [] [.data, .data, .data] true (true, "d6f9adf9fefe123f5e946bbe3f80bec14b83fa8cdd5a521450dd61beb2a845c6") false
    over (fun _ h => by cases h) (by kernel_rfl) (fun _ h => by cases h) fnViews_row_tie rfl ⟨rfl, rfl⟩ (by kernel_rfl) rfl
    (fun f fn hf hfn => by
      obtain rfl : f = 3 := Option.some.inj ((show Tryz.prog.funcNamed "loop.example/g03007/laws.FnViews" = some 3 by kernel_rfl).symm.trans hf) |>.symm
      obtain rfl : fn = Tryz.f3 := (Option.some.inj (Tryz.func3.symm.trans hfn)).symm
      exact ⟨by kernel_rfl, fun j t ht => by
        rw [Tryz.params3] at ht
        have hm : t ∈ [22] := by simpa using Array.mem_of_getElem? ht
        have hall : ([22].all fun u => !Tryz.prog.wantsStandIn u) = true := by kernel_rfl
        exact (show Tryz.prog.wantsStandIn t = false by simpa using List.all_eq_true.1 hall t hm)⟩)
    (by kernel_rfl)
#print axioms card
end Go.Proofs.YtkbilciipmijjaaGreatDoor.fnViews
namespace Go.Proofs.YtkbilciipmijjaaGreatDoor
/-- The card, under a short name, for the claim. -/
theorem fnViews_holds : Rows.FnViewsCardSaid := fnViews.card
end Go.Proofs.YtkbilciipmijjaaGreatDoor
