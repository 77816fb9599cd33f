/- Proves FnExactFormatHouseCardSaid: the law FnExactFormatHouse holds at every call, where the table of tens starts as the program's text lays it, and is so tied. No conditions beyond the card's own. -/
import Derived.Test.YtaajilepbclmfaaDoorRows
import Derived.Test.YtaajilepbclmfaaDoorPureFnExactFormatHouse
import Derived.Test.YtaajilepbclmfaaDoorEq
import Derived.Test.YtaajilepbclmfaaDoorRd1
import Derived.Test.YtaajilepbclmfaaDoorXt
import Derived.Test.YtaajilepbclmfaaDoorTie
import Derived.Test.YtaajilepbclmfaaDoorCards
import Derived.LaidMore
import Derived.LaidHandle
import Derived.MakeChecks
import Derived.Stop.LaidErr
import Derived.Lib.LaidTab
import Derived.SevenTiedAt
import Derived.Test.YtaajilepbclmfaaDoorChecked
import Derived.WalkKit
import Derived.ProofKit
import Derived.OpenShut
import Derived.ShutString
import Derived.SizedLaws
import Derived.KernelRfl
namespace Go.Proofs.YtaajilepbclmfaaDoor.fnExactFormatHouse
open Go Go.Proofs Go.Proofs.YtaajilepbclmfaaDoor Go.Proofs.YtaajilepbclmfaaDoor.Am Go.ChangeShapes Go.WideShapes Go.ChangeAt Go.RowKit
set_option linter.unusedVariables false
set_option linter.unusedSimpArgs false
set_option linter.defProp false
set_option maxRecDepth 100000
theorem own : ownKnob Tryd.prog.godebug = none := by kernel_rfl
theorem laid : laidOutB Tryd.prog = true := by kernel_rfl
theorem T_ok : T.ok = true := by kernel_rfl
theorem T_mixed : T.P.follows .mixedOrders = true := by kernel_rfl
theorem T_st : ∀ g, T.st g = true → SortP T.P g := fun g h => (by have h1 : false = true := h; cases h1)
theorem door_met (os : Os) (args : Array Value) : laidMetH Tryd.prog Rows.fnExactFormatHouseRow.laid ((World.doorLaid Tryd.prog 400 os).forCall (fun _ _ => 0) ⟨#[], args, []⟩).memory :=
  laidMetH_of_parts3 (fuel := 8) (laidMet_of_run' 8 (by kernel_rfl) (by kernel_rfl)) (by kernel_rfl) (by kernel_rfl)
theorem tens {W : World} (h : laidMetH Tryd.prog Rows.fnExactFormatHouseRow.laid W) : Wd.I W := by
  rw [MakeChecks.laidMetH_plain _ _ _ (by kernel_rfl)] at h
  have h3 : laidMet Tryd.prog [("internal/strconv.uint64pow10", Lib.tabData .u64 Lib.pow10Tab)] W := h.tail.tail
  exact Lib.tabIs_of_head gTens (by kernel_rfl) Tryd.underlying173 Tryd.underlying166 (by kernel_rfl) (by kernel_rfl) h3
theorem i64_of {n : Int} (h : inK .i64 n) : i64 n := h
theorem rd3 : Rd Tryd.prog 3 c_i64 i64 := (Rd.int Tryd.underlying3).map (fun x => x) (fun _ => rfl) (fun _ h => i64_of h)
theorem rd131 : Rd Tryd.prog 131 cThing okThing := (Rd.struct (ts := [(3, 1), (3, 1), (3, 1), (3, 1), (3, 1)]) Tryd.underlying131 (by kernel_rfl) (by kernel_rfl) (Rf.cons rd3 (Rf.cons rd3 (Rf.cons rd3 (Rf.cons rd3 (Rf.cons rd3 (Rf.nil _))))))).map (fun x => ⟨x.1, x.2.1, x.2.2.1, x.2.2.2.1, x.2.2.2.2.1⟩) (fun _ => rfl) (fun _ h => ⟨h.1, h.2.1, h.2.2.1, h.2.2.2.1, h.2.2.2.2.1⟩)
theorem rd133 : Rd Tryd.prog 133 cFind okFind := (Rd.struct (ts := [(131, 5), (3, 1), (3, 1), (3, 1)]) Tryd.underlying133 (by kernel_rfl) (by kernel_rfl) (Rf.cons rd131 (Rf.cons rd3 (Rf.cons rd3 (Rf.cons rd3 (Rf.nil _)))))).map (fun x => ⟨x.1, x.2.1, x.2.2.1, x.2.2.2.1⟩) (fun _ => rfl) (fun _ h => ⟨h.1, h.2.1, h.2.2.1, h.2.2.2.1⟩)
theorem rd57 : Rd Tryd.prog 57 (fun xs : List Find => [.imm 8 (xs.map cFind)]) (okL okFind) := Rd.slice (m := 8) Tryd.underlying57 (by kernel_rfl) (by decide) rd133 (fun _ => rfl)
theorem rd163 : Rd Tryd.prog 163 cMark okMark := (Rd.struct (ts := [(3, 1), (3, 1)]) Tryd.underlying163 (by kernel_rfl) (by kernel_rfl) (Rf.cons rd3 (Rf.cons rd3 (Rf.nil _)))).map (fun x => ⟨x.1, x.2.1⟩) (fun _ => rfl) (fun _ h => ⟨h.1, h.2.1⟩)
theorem rd123 : Rd Tryd.prog 123 (fun xs : List Mark => [.imm 2 (xs.map cMark)]) (okL okMark) := Rd.slice (m := 2) Tryd.underlying123 (by kernel_rfl) (by decide) rd163 (fun _ => rfl)
theorem rd125 : Rd Tryd.prog 125 cSecret okSecret := (Rd.struct (ts := [(3, 1), (123, 1), (3, 1)]) Tryd.underlying125 (by kernel_rfl) (by kernel_rfl) (Rf.cons rd3 (Rf.cons rd123 (Rf.cons rd3 (Rf.nil _))))).map (fun x => ⟨x.1, x.2.1, x.2.2.1⟩) (fun _ => rfl) (fun _ h => ⟨h.1, h.2.1, h.2.2.1⟩)
theorem rd58 : Rd Tryd.prog 58 (fun xs : List Secret => [.imm 3 (xs.map cSecret)]) (okL okSecret) := Rd.slice (m := 3) Tryd.underlying58 (by kernel_rfl) (by decide) rd125 (fun _ => rfl)
theorem rd85 : Rd Tryd.prog 85 cSlot okSlot := (Rd.struct (ts := [(3, 1), (3, 1), (3, 1)]) Tryd.underlying85 (by kernel_rfl) (by kernel_rfl) (Rf.cons rd3 (Rf.cons rd3 (Rf.cons rd3 (Rf.nil _))))).map (fun x => ⟨x.1, x.2.1, x.2.2.1⟩) (fun _ => rfl) (fun _ h => ⟨h.1, h.2.1, h.2.2.1⟩)
theorem rd36 : Rd Tryd.prog 36 (fun xs : List Slot => [.imm 3 (xs.map cSlot)]) (okL okSlot) := Rd.slice (m := 3) Tryd.underlying36 (by kernel_rfl) (by decide) rd85 (fun _ => rfl)
theorem rd90 : Rd Tryd.prog 90 cClaim okClaim := (Rd.struct (ts := [(3, 1), (3, 1), (3, 1), (3, 1), (3, 1)]) Tryd.underlying90 (by kernel_rfl) (by kernel_rfl) (Rf.cons rd3 (Rf.cons rd3 (Rf.cons rd3 (Rf.cons rd3 (Rf.cons rd3 (Rf.nil _))))))).map (fun x => ⟨x.1, x.2.1, x.2.2.1, x.2.2.2.1, x.2.2.2.2.1⟩) (fun _ => rfl) (fun _ h => ⟨h.1, h.2.1, h.2.2.1, h.2.2.2.1, h.2.2.2.2.1⟩)
theorem rd43 : Rd Tryd.prog 43 (fun xs : List Claim => [.imm 5 (xs.map cClaim)]) (okL okClaim) := Rd.slice (m := 5) Tryd.underlying43 (by kernel_rfl) (by decide) rd90 (fun _ => rfl)
theorem rd141 : Rd Tryd.prog 141 cTrial okTrial := (Rd.struct (ts := [(3, 1), (3, 1), (3, 1), (3, 1)]) Tryd.underlying141 (by kernel_rfl) (by kernel_rfl) (Rf.cons rd3 (Rf.cons rd3 (Rf.cons rd3 (Rf.cons rd3 (Rf.nil _)))))).map (fun x => ⟨x.1, x.2.1, x.2.2.1, x.2.2.2.1⟩) (fun _ => rfl) (fun _ h => ⟨h.1, h.2.1, h.2.2.1, h.2.2.2.1⟩)
theorem rd59 : Rd Tryd.prog 59 (fun xs : List Trial => [.imm 4 (xs.map cTrial)]) (okL okTrial) := Rd.slice (m := 4) Tryd.underlying59 (by kernel_rfl) (by decide) rd141 (fun _ => rfl)
theorem rd96 : Rd Tryd.prog 96 cHand okHand := (Rd.struct (ts := [(3, 1), (3, 1), (3, 1), (3, 1), (3, 1)]) Tryd.underlying96 (by kernel_rfl) (by kernel_rfl) (Rf.cons rd3 (Rf.cons rd3 (Rf.cons rd3 (Rf.cons rd3 (Rf.cons rd3 (Rf.nil _))))))).map (fun x => ⟨x.1, x.2.1, x.2.2.1, x.2.2.2.1, x.2.2.2.2.1⟩) (fun _ => rfl) (fun _ h => ⟨h.1, h.2.1, h.2.2.1, h.2.2.2.1, h.2.2.2.2.1⟩)
theorem rd50 : Rd Tryd.prog 50 (fun xs : List Hand => [.imm 5 (xs.map cHand)]) (okL okHand) := Rd.slice (m := 5) Tryd.underlying50 (by kernel_rfl) (by decide) rd96 (fun _ => rfl)
theorem rd145 : Rd Tryd.prog 145 cEntry okEntry := (Rd.struct (ts := [(3, 1), (3, 1), (3, 1), (3, 1)]) Tryd.underlying145 (by kernel_rfl) (by kernel_rfl) (Rf.cons rd3 (Rf.cons rd3 (Rf.cons rd3 (Rf.cons rd3 (Rf.nil _)))))).map (fun x => ⟨x.1, x.2.1, x.2.2.1, x.2.2.2.1⟩) (fun _ => rfl) (fun _ h => ⟨h.1, h.2.1, h.2.2.1, h.2.2.2.1⟩)
theorem rd60 : Rd Tryd.prog 60 (fun xs : List Entry => [.imm 4 (xs.map cEntry)]) (okL okEntry) := Rd.slice (m := 4) Tryd.underlying60 (by kernel_rfl) (by decide) rd145 (fun _ => rfl)
theorem rd62 : Rd Tryd.prog 62 cHouse okHouse := (Rd.struct (ts := [(3, 1), (57, 1), (58, 1), (36, 1), (43, 1), (59, 1), (50, 1), (60, 1), (3, 1)]) Tryd.underlying62 (by kernel_rfl) (by kernel_rfl) (Rf.cons rd3 (Rf.cons rd57 (Rf.cons rd58 (Rf.cons rd36 (Rf.cons rd43 (Rf.cons rd59 (Rf.cons rd50 (Rf.cons rd60 (Rf.cons rd3 (Rf.nil _))))))))))).map (fun x => ⟨x.1, x.2.1, x.2.2.1, x.2.2.2.1, x.2.2.2.2.1, x.2.2.2.2.2.1, x.2.2.2.2.2.2.1, x.2.2.2.2.2.2.2.1, x.2.2.2.2.2.2.2.2.1⟩) (fun _ => rfl) (fun _ h => ⟨h.1, h.2.1, h.2.2.1, h.2.2.2.1, h.2.2.2.2.1, h.2.2.2.2.2.1, h.2.2.2.2.2.2.1, h.2.2.2.2.2.2.2.1, h.2.2.2.2.2.2.2.2.1⟩)
theorem found (aH : House) (h1 : okHouse aH) : ∃ n, CP T n 9 [.agg (cHouse aH)] = some (.b true) := ⟨_, by
  simp only [e_cHouse]
  rw [show CP T (0 + 8) 9 _ = _ from e_laws_FnExactFormatHouse 0 _ _, pure_FnExactFormatHouse _ h1]; rfl⟩
theorem lifted (os : Os) (started : os.Started) (H : Type) (enc : TypeId × Value → H) :
    ReturnsInHanded {} Tryd.checked os 9 .any (fun w args => (Rows.fnExactFormatHouseSpec.pre enc Tryd.prog Tryd.f9 [] false w args ∧ laidMetH Tryd.prog Rows.fnExactFormatHouseRow.laid w) ∧ sizedMet enc Tryd.prog Tryd.f9 (OpenSpec.ofChange Rows.fnExactFormatHouseSpec) false w args)
      (Rows.fnExactFormatHouseSpec.post enc Tryd.prog Tryd.f9 false true false false) := by
  refine returnsInHanded_of_change_and (C := Tryd.checked) (X := fun w _ => laidMetH Tryd.prog Rows.fnExactFormatHouseRow.laid w) (fun _ _ _ hh h => h.of_heap hh) own started (by kernel_rfl) Tryd.func9
    (ChangeSpec.witness_shaped (enc := enc) (C := Tryd.checked) (os := os) (X := fun w _ => laidMetH Tryd.prog Rows.fnExactFormatHouseRow.laid w) false (World.doorLaid Tryd.prog 400 os) #[.agg #[.int .i64 0, .slice none 0 0, .slice none 0 0, .slice none 0 0, .slice none 0 0, .slice none 0 0, .slice none 0 0, .slice none 0 0, .int .i64 0]] 8 rfl (World.shaped_of_RefB (by kernel_rfl) (by kernel_rfl)) (by kernel_rfl) (by kernel_rfl) (by kernel_rfl) (door_met os _)) ?_
  intro W base args ds gs before hval0 hW _ _ hL _
  have hval : ∀ (j : Nat) t v, Tryd.f9.params[j]? = some t → args[j]? = some v → Value.okWide Tryd.prog W .any base t v := hval0
  have hW' := hW
  obtain ⟨p, q, hA0, hV, rfl, hfz, hnd⟩ := hW
  have hA : DataW.TrodAll enc Tryd.prog W 0 (fun _ => true) true Tryd.f9.params.toList args.toList ds p := hA0
  rw [Tryd.params9] at hA hval
  obtain ⟨v1, vs1, d1, ds1, p1, q1, e1, rfl, rfl, k1, hA1⟩ := trodAll_cons hA
  obtain ⟨rfl, rfl, rfl⟩ := trodAll_nil hA1
  obtain ⟨rfl, rfl⟩ := trodVars_none hV
  have hargs : args = #[v1] := Array.toList_inj.1 e1
  subst hargs
  obtain ⟨x1, o1, X1⟩ := (Rv.struct Tryd.underlying62 rd62).rd (hval 0 _ _ rfl rfl) k1
  obtain ⟨n, hcp⟩ := found x1 o1
  have hX : XRs W FF EN [.agg (cHouse x1)] [v1] [] := (by simp only [XRs]; exact ⟨v1, _, [], [], rfl, rfl, X1, ⟨rfl, rfl⟩⟩)
  refine ((CP_ok T_ok T_mixed T_xt T_st hcp).law (tens hL) hX).mono fun e W' ⟨he, bel⟩ => ?_
  subst he
  exact ⟨_, rfl, _, _, _, [], _, [], hW', trodAll_mk1 (shut_bool Tryd.underlying4 _), trodAll_mk1 (Below.trod laid (by kernel_rfl) (of_decide_eq_true (by kernel_rfl)) k1 bel (fun x hx => hW'.lt x (by simp [hx]))), rfl, bel.frame _, fun h => by cases h⟩
theorem over : Rows.fnExactFormatHouseRow.holds Tryd.pinned (OpenSpec.ofChange Rows.fnExactFormatHouseSpec) :=
  OpenClaim.holds_of_wide 9 Tryd.f9 rfl rfl rfl rfl rfl rfl rfl ⟨rfl, rfl, rfl, rfl, rfl⟩ rfl rfl rfl rfl rfl (by kernel_rfl) Tryd.func9 (by kernel_rfl)
    (of_decide_eq_true (by kernel_rfl)) (by unfold Func.isWrapper; first | (rw [if_pos (by decide +kernel)]; kernel_rfl) | (rw [if_neg (by decide +kernel)]; exact ⟨rfl, rfl⟩))
    (fun os started H enc _ => lifted os started H enc)
theorem card : Rows.FnExactFormatHouseCardSaid :=
  Claim7.holds_tied_plain_at .later [] [.data, .data, .data] true (true, "a2bcd981e3a8ab0d796de982fd57142887fd80a9acba267be48c0d5c13c9d4bf") false
    over (fun _ h => by cases h) (by kernel_rfl) (fun _ h => by cases h) fnExactFormatHouse_row_tie rfl ⟨rfl, rfl⟩ (by kernel_rfl) rfl
    (fun f fn hf hfn => by
      obtain rfl : f = 9 := Option.some.inj ((show Tryd.prog.funcNamed "loop.example/g03007/laws.FnExactFormatHouse" = some 9 by kernel_rfl).symm.trans hf) |>.symm
      obtain rfl : fn = Tryd.f9 := (Option.some.inj (Tryd.func9.symm.trans hfn)).symm
      exact ⟨by kernel_rfl, fun j t ht => by
        rw [Tryd.params9] at ht
        have hm : t ∈ [62] := by simpa using Array.mem_of_getElem? ht
        have hall : ([62].all fun u => !Tryd.prog.wantsStandIn u) = true := by kernel_rfl
        exact (show Tryd.prog.wantsStandIn t = false by simpa using List.all_eq_true.1 hall t hm)⟩)
    (by kernel_rfl)
#print axioms card
end Go.Proofs.YtaajilepbclmfaaDoor.fnExactFormatHouse
namespace Go.Proofs.YtaajilepbclmfaaDoor
/-- The card, under a short name, for the claim. -/
theorem fnExactFormatHouse_holds : Rows.FnExactFormatHouseCardSaid := fnExactFormatHouse.card
end Go.Proofs.YtaajilepbclmfaaDoor
