/-
  No cell of these rows narrows 'for every input' (looked for: loops, veiled, ifaces, maps, wideKeys, modest, calm, conditions, laid).
  DERIVED. THE GIVEN ROWS OF THIS SEAT. 10 by the template 'for every input the law returns true; each argument reads behind the call as it read before'; 0 by the template 'total and deterministic' (their statements: YtcdffihcfeajfaaGreatTotals.lean).
  GIVEN WITH THE SEED: the statements are not yours to turn. If you find one false, say at which input.
  Laid BY PROGRAM, IN A SANDBOX (cutbox-rows.mjs): the forced cells as the released guide's own fill.sh prints them over the translation e86eb5d56457f3dd… (all of the seat's roots in one cut). By AI agents, Wed Nov 11 2026. No macro, syntax, notation, axiom, sorry.
-/
import Derived.Test.YtcdffihcfeajfaaGreatChecked
import GoSem.Claim
import GoSem.ClaimJoined
import GoSem.ClaimMapViews
import Derived.JoinedTies
import Derived.KernelRfl
namespace Go.Proofs.YtcdffihcfeajfaaGreat
/- THE CELL 'sum', in the pinned program and in every row, IS THE sha256 OF THE DUMP (.gsa) THAT YtcdffihcfeajfaaGreatProg.lean LOADS. Nothing in Lean hashes anything: it is a label: what it is worth is what the hold of that sum in a sandbox is worth. -/
noncomputable def Tryz.pinned : Pinned := { name := "ytcdffihcfeajfaagreat", sum := "e86eb5d56457f3dd7778b3039a22fe95d143b8d7027cb0bd6adb9283b21bc45a", checked := Tryz.checked }
namespace Rows
def none {H : Type} : Left H := { results := [], args := [] }

/-- 'laws.FnExactNewHouse': WHATEVER THE INPUT: true; the input reads as it did. -/
def fnExactNewHouseSpec : ChangeSpec := { name := "fnExactNewHouse", fn := fun _ => fun
  | [d1, d2] => { results := [.lit (.bool true)], args := [d1, d2] }
  | _ => none }
def fnExactNewHouseRow : OpenClaim := { program := "ytcdffihcfeajfaagreat", sum := "e86eb5d56457f3dd7778b3039a22fe95d143b8d7027cb0bd6adb9283b21bc45a", func := "loop.example/g03007/laws.FnExactNewHouse", spec := "fnExactNewHouse", unfollowed := true, recurses := true, apart := false }
def FnExactNewHouseSaid : Prop := fnExactNewHouseRow.holds Tryz.pinned (OpenSpec.ofChange fnExactNewHouseSpec)

/-- ITS FALSE NEIGHBOUR: 'it returns false'. Refute it at one input. -/
def fnExactNewHouseWrong : ChangeSpec := { name := "fnExactNewHouse", fn := fun _ => fun
  | [d1, d2] => { results := [.lit (.bool false)], args := [d1, d2] }
  | _ => none }
def FnExactNewHouseWrongFalsely : Prop := fnExactNewHouseRow.holds Tryz.pinned (OpenSpec.ofChange fnExactNewHouseWrong)

/-- 'laws.FnExactStepTick': WHATEVER THE INPUT: true; the input reads as it did. -/
def fnExactStepTickSpec : ChangeSpec := { name := "fnExactStepTick", fn := fun _ => fun
  | [d1, d2] => { results := [.lit (.bool true)], args := [d1, d2] }
  | _ => none }
def fnExactStepTickRow : OpenClaim := { program := "ytcdffihcfeajfaagreat", sum := "e86eb5d56457f3dd7778b3039a22fe95d143b8d7027cb0bd6adb9283b21bc45a", func := "loop.example/g03007/laws.FnExactStepTick", spec := "fnExactStepTick", unfollowed := true, recurses := true, apart := false }
def FnExactStepTickSaid : Prop := fnExactStepTickRow.holds Tryz.pinned (OpenSpec.ofChange fnExactStepTickSpec)

/-- ITS FALSE NEIGHBOUR: 'it returns false'. Refute it at one input. -/
def fnExactStepTickWrong : ChangeSpec := { name := "fnExactStepTick", fn := fun _ => fun
  | [d1, d2] => { results := [.lit (.bool false)], args := [d1, d2] }
  | _ => none }
def FnExactStepTickWrongFalsely : Prop := fnExactStepTickRow.holds Tryz.pinned (OpenSpec.ofChange fnExactStepTickWrong)

/-- 'laws.FnExactStepAnswer': WHATEVER THE INPUT: true; the input reads as it did. -/
def fnExactStepAnswerSpec : ChangeSpec := { name := "fnExactStepAnswer", fn := fun _ => fun
  | [d1, d2, d3] => { results := [.lit (.bool true)], args := [d1, d2, d3] }
  | _ => none }
def fnExactStepAnswerRow : OpenClaim := { program := "ytcdffihcfeajfaagreat", sum := "e86eb5d56457f3dd7778b3039a22fe95d143b8d7027cb0bd6adb9283b21bc45a", func := "loop.example/g03007/laws.FnExactStepAnswer", spec := "fnExactStepAnswer", unfollowed := true, recurses := true, apart := false }
def FnExactStepAnswerSaid : Prop := fnExactStepAnswerRow.holds Tryz.pinned (OpenSpec.ofChange fnExactStepAnswerSpec)

/-- ITS FALSE NEIGHBOUR: 'it returns false'. Refute it at one input. -/
def fnExactStepAnswerWrong : ChangeSpec := { name := "fnExactStepAnswer", fn := fun _ => fun
  | [d1, d2, d3] => { results := [.lit (.bool false)], args := [d1, d2, d3] }
  | _ => none }
def FnExactStepAnswerWrongFalsely : Prop := fnExactStepAnswerRow.holds Tryz.pinned (OpenSpec.ofChange fnExactStepAnswerWrong)

/-- 'laws.FnExactStepClaim': WHATEVER THE INPUT: true; the input reads as it did. -/
def fnExactStepClaimSpec : ChangeSpec := { name := "fnExactStepClaim", fn := fun _ => fun
  | [d1, d2, d3, d4] => { results := [.lit (.bool true)], args := [d1, d2, d3, d4] }
  | _ => none }
def fnExactStepClaimRow : OpenClaim := { program := "ytcdffihcfeajfaagreat", sum := "e86eb5d56457f3dd7778b3039a22fe95d143b8d7027cb0bd6adb9283b21bc45a", func := "loop.example/g03007/laws.FnExactStepClaim", spec := "fnExactStepClaim", inPlace := ["slices.overlaps[loop.example/g03007/impl.Claim]", "slices.overlaps[loop.example/g03007/impl.Trial]"], unfollowed := true, recurses := true, apart := false }
def FnExactStepClaimSaid : Prop := fnExactStepClaimRow.holds Tryz.pinned (OpenSpec.ofChange fnExactStepClaimSpec)

/-- ITS FALSE NEIGHBOUR: 'it returns false'. Refute it at one input. -/
def fnExactStepClaimWrong : ChangeSpec := { name := "fnExactStepClaim", fn := fun _ => fun
  | [d1, d2, d3, d4] => { results := [.lit (.bool false)], args := [d1, d2, d3, d4] }
  | _ => none }
def FnExactStepClaimWrongFalsely : Prop := fnExactStepClaimRow.holds Tryz.pinned (OpenSpec.ofChange fnExactStepClaimWrong)

/-- 'laws.FnExactStepServe': WHATEVER THE INPUT: true; the input reads as it did. -/
def fnExactStepServeSpec : ChangeSpec := { name := "fnExactStepServe", fn := fun _ => fun
  | [d1, d2] => { results := [.lit (.bool true)], args := [d1, d2] }
  | _ => none }
def fnExactStepServeRow : OpenClaim := { program := "ytcdffihcfeajfaagreat", sum := "e86eb5d56457f3dd7778b3039a22fe95d143b8d7027cb0bd6adb9283b21bc45a", func := "loop.example/g03007/laws.FnExactStepServe", spec := "fnExactStepServe", unfollowed := true, recurses := true, apart := false }
def FnExactStepServeSaid : Prop := fnExactStepServeRow.holds Tryz.pinned (OpenSpec.ofChange fnExactStepServeSpec)

/-- ITS FALSE NEIGHBOUR: 'it returns false'. Refute it at one input. -/
def fnExactStepServeWrong : ChangeSpec := { name := "fnExactStepServe", fn := fun _ => fun
  | [d1, d2] => { results := [.lit (.bool false)], args := [d1, d2] }
  | _ => none }
def FnExactStepServeWrongFalsely : Prop := fnExactStepServeRow.holds Tryz.pinned (OpenSpec.ofChange fnExactStepServeWrong)

/-- 'laws.FnExactStepClear': WHATEVER THE INPUT: true; the input reads as it did. -/
def fnExactStepClearSpec : ChangeSpec := { name := "fnExactStepClear", fn := fun _ => fun
  | [d1, d2] => { results := [.lit (.bool true)], args := [d1, d2] }
  | _ => none }
def fnExactStepClearRow : OpenClaim := { program := "ytcdffihcfeajfaagreat", sum := "e86eb5d56457f3dd7778b3039a22fe95d143b8d7027cb0bd6adb9283b21bc45a", func := "loop.example/g03007/laws.FnExactStepClear", spec := "fnExactStepClear", unfollowed := true, recurses := true, apart := false }
def FnExactStepClearSaid : Prop := fnExactStepClearRow.holds Tryz.pinned (OpenSpec.ofChange fnExactStepClearSpec)

/-- ITS FALSE NEIGHBOUR: 'it returns false'. Refute it at one input. -/
def fnExactStepClearWrong : ChangeSpec := { name := "fnExactStepClear", fn := fun _ => fun
  | [d1, d2] => { results := [.lit (.bool false)], args := [d1, d2] }
  | _ => none }
def FnExactStepClearWrongFalsely : Prop := fnExactStepClearRow.holds Tryz.pinned (OpenSpec.ofChange fnExactStepClearWrong)

/-- 'laws.FnExactStepFind': WHATEVER THE INPUT: true; the input reads as it did. -/
def fnExactStepFindSpec : ChangeSpec := { name := "fnExactStepFind", fn := fun _ => fun
  | [d1, d2, d3, d4] => { results := [.lit (.bool true)], args := [d1, d2, d3, d4] }
  | _ => none }
def fnExactStepFindRow : OpenClaim := { program := "ytcdffihcfeajfaagreat", sum := "e86eb5d56457f3dd7778b3039a22fe95d143b8d7027cb0bd6adb9283b21bc45a", func := "loop.example/g03007/laws.FnExactStepFind", spec := "fnExactStepFind", inPlace := ["slices.overlaps[loop.example/g03007/impl.Find]", "slices.overlaps[loop.example/g03007/impl.Secret]"], unfollowed := true, recurses := true, apart := false }
def FnExactStepFindSaid : Prop := fnExactStepFindRow.holds Tryz.pinned (OpenSpec.ofChange fnExactStepFindSpec)

/-- ITS FALSE NEIGHBOUR: 'it returns false'. Refute it at one input. -/
def fnExactStepFindWrong : ChangeSpec := { name := "fnExactStepFind", fn := fun _ => fun
  | [d1, d2, d3, d4] => { results := [.lit (.bool false)], args := [d1, d2, d3, d4] }
  | _ => none }
def FnExactStepFindWrongFalsely : Prop := fnExactStepFindRow.holds Tryz.pinned (OpenSpec.ofChange fnExactStepFindWrong)

/-- 'laws.FnExactStepSell': WHATEVER THE INPUT: true; the input reads as it did. -/
def fnExactStepSellSpec : ChangeSpec := { name := "fnExactStepSell", fn := fun _ => fun
  | [d1, d2, d3] => { results := [.lit (.bool true)], args := [d1, d2, d3] }
  | _ => none }
def fnExactStepSellRow : OpenClaim := { program := "ytcdffihcfeajfaagreat", sum := "e86eb5d56457f3dd7778b3039a22fe95d143b8d7027cb0bd6adb9283b21bc45a", func := "loop.example/g03007/laws.FnExactStepSell", spec := "fnExactStepSell", unfollowed := true, recurses := true, apart := false }
def FnExactStepSellSaid : Prop := fnExactStepSellRow.holds Tryz.pinned (OpenSpec.ofChange fnExactStepSellSpec)

/-- ITS FALSE NEIGHBOUR: 'it returns false'. Refute it at one input. -/
def fnExactStepSellWrong : ChangeSpec := { name := "fnExactStepSell", fn := fun _ => fun
  | [d1, d2, d3] => { results := [.lit (.bool false)], args := [d1, d2, d3] }
  | _ => none }
def FnExactStepSellWrongFalsely : Prop := fnExactStepSellRow.holds Tryz.pinned (OpenSpec.ofChange fnExactStepSellWrong)

/-- 'laws.FnExactApplyEvent': WHATEVER THE INPUT: true; the input reads as it did. -/
def fnExactApplyEventSpec : ChangeSpec := { name := "fnExactApplyEvent", fn := fun _ => fun
  | [d1, d2] => { results := [.lit (.bool true)], args := [d1, d2] }
  | _ => none }
def fnExactApplyEventRow : OpenClaim := { program := "ytcdffihcfeajfaagreat", sum := "e86eb5d56457f3dd7778b3039a22fe95d143b8d7027cb0bd6adb9283b21bc45a", func := "loop.example/g03007/laws.FnExactApplyEvent", spec := "fnExactApplyEvent", inPlace := ["slices.overlaps[loop.example/g03007/impl.Find]", "slices.overlaps[loop.example/g03007/impl.Secret]", "slices.overlaps[loop.example/g03007/impl.Claim]", "slices.overlaps[loop.example/g03007/impl.Trial]"], unfollowed := true, recurses := true, apart := false }
def FnExactApplyEventSaid : Prop := fnExactApplyEventRow.holds Tryz.pinned (OpenSpec.ofChange fnExactApplyEventSpec)

/-- ITS FALSE NEIGHBOUR: 'it returns false'. Refute it at one input. -/
def fnExactApplyEventWrong : ChangeSpec := { name := "fnExactApplyEvent", fn := fun _ => fun
  | [d1, d2] => { results := [.lit (.bool false)], args := [d1, d2] }
  | _ => none }
def FnExactApplyEventWrongFalsely : Prop := fnExactApplyEventRow.holds Tryz.pinned (OpenSpec.ofChange fnExactApplyEventWrong)

/-- 'laws.FnExactRunEvents': WHATEVER THE INPUT: true; the input reads as it did. -/
def fnExactRunEventsSpec : ChangeSpec := { name := "fnExactRunEvents", fn := fun _ => fun
  | [d1, d2] => { results := [.lit (.bool true)], args := [d1, d2] }
  | _ => none }
def fnExactRunEventsRow : OpenClaim := { program := "ytcdffihcfeajfaagreat", sum := "e86eb5d56457f3dd7778b3039a22fe95d143b8d7027cb0bd6adb9283b21bc45a", func := "loop.example/g03007/laws.FnExactRunEvents", spec := "fnExactRunEvents", inPlace := ["slices.overlaps[loop.example/g03007/impl.Find]", "slices.overlaps[loop.example/g03007/impl.Secret]", "slices.overlaps[loop.example/g03007/impl.Claim]", "slices.overlaps[loop.example/g03007/impl.Trial]"], unfollowed := true, recurses := true, apart := false }
def FnExactRunEventsSaid : Prop := fnExactRunEventsRow.holds Tryz.pinned (OpenSpec.ofChange fnExactRunEventsSpec)

/-- ITS FALSE NEIGHBOUR: 'it returns false'. Refute it at one input. -/
def fnExactRunEventsWrong : ChangeSpec := { name := "fnExactRunEvents", fn := fun _ => fun
  | [d1, d2] => { results := [.lit (.bool false)], args := [d1, d2] }
  | _ => none }
def FnExactRunEventsWrongFalsely : Prop := fnExactRunEventsRow.holds Tryz.pinned (OpenSpec.ofChange fnExactRunEventsWrong)

/- THE SECOND FORM. 'bulk': how many values and letters a reading holds, each counted each time it is reached (what is shared counts as often as it is met; a slice's spare places count too). A statement '..UptoSaid' is the law's where the arguments, and the package variables that the reading takes, are together of bulk at most 1048576: NARROWER than '..Said'. Prove '..Said' where nothing that the law and all that it calls make is longer than what came in: it says more and counts as full. Else prove '..UptoSaid'. A law counts once. -/
mutual
def uptoBulk {H : Type} : DataW H → Nat
  | .lit (.string bytes) => bytes.length + 1
  | .lit _ => 1
  | .nil => 1
  | .ptr d => uptoBulk d + 1
  | .slice elems spare => uptoBulkAll elems + uptoBulkAll spare + 1
  | .agg parts => uptoBulkAll parts + 1
  | .iface _ d => uptoBulk d + 1
  | .map entries => uptoBulkEntries entries + 1
  | .held _ => 1
def uptoBulkAll {H : Type} : List (DataW H) → Nat
  | [] => 0
  | d :: r => uptoBulk d + uptoBulkAll r
def uptoBulkEntries {H : Type} : List (Lit × DataW H) → Nat
  | [] => 0
  | x :: r => uptoBulkEntry x + uptoBulkEntries r
def uptoBulkEntry {H : Type} : Lit × DataW H → Nat
  | (.string bytes, d) => bytes.length + uptoBulk d + 1
  | (_, d) => uptoBulk d + 1
 end
def uptoSmall : (H : Type) → List (DataW H) → Bool := fun _ ds => decide (uptoBulkAll ds ≤ 1048576)
def OpenSpec.upto (s : _root_.Go.ChangeSpec) : _root_.Go.OpenSpec := { _root_.Go.OpenSpec.ofChange s with cond := some uptoSmall }

/-- 'laws.FnExactNewHouse', WHERE WHAT IT READS IS OF BULK AT MOST 1048576: true; the input reads as it did. -/
def fnExactNewHouseUptoRow : OpenClaim := { program := "ytcdffihcfeajfaagreat", sum := "e86eb5d56457f3dd7778b3039a22fe95d143b8d7027cb0bd6adb9283b21bc45a", func := "loop.example/g03007/laws.FnExactNewHouse", spec := "fnExactNewHouse", unfollowed := true, recurses := true, apart := false, narrowed := true }
def FnExactNewHouseUptoSaid : Prop := fnExactNewHouseUptoRow.holds Tryz.pinned (OpenSpec.upto fnExactNewHouseSpec)

/-- 'laws.FnExactStepTick', WHERE WHAT IT READS IS OF BULK AT MOST 1048576: true; the input reads as it did. -/
def fnExactStepTickUptoRow : OpenClaim := { program := "ytcdffihcfeajfaagreat", sum := "e86eb5d56457f3dd7778b3039a22fe95d143b8d7027cb0bd6adb9283b21bc45a", func := "loop.example/g03007/laws.FnExactStepTick", spec := "fnExactStepTick", unfollowed := true, recurses := true, apart := false, narrowed := true }
def FnExactStepTickUptoSaid : Prop := fnExactStepTickUptoRow.holds Tryz.pinned (OpenSpec.upto fnExactStepTickSpec)

/-- 'laws.FnExactStepAnswer', WHERE WHAT IT READS IS OF BULK AT MOST 1048576: true; the input reads as it did. -/
def fnExactStepAnswerUptoRow : OpenClaim := { program := "ytcdffihcfeajfaagreat", sum := "e86eb5d56457f3dd7778b3039a22fe95d143b8d7027cb0bd6adb9283b21bc45a", func := "loop.example/g03007/laws.FnExactStepAnswer", spec := "fnExactStepAnswer", unfollowed := true, recurses := true, apart := false, narrowed := true }
def FnExactStepAnswerUptoSaid : Prop := fnExactStepAnswerUptoRow.holds Tryz.pinned (OpenSpec.upto fnExactStepAnswerSpec)

/-- 'laws.FnExactStepClaim', WHERE WHAT IT READS IS OF BULK AT MOST 1048576: true; the input reads as it did. -/
def fnExactStepClaimUptoRow : OpenClaim := { program := "ytcdffihcfeajfaagreat", sum := "e86eb5d56457f3dd7778b3039a22fe95d143b8d7027cb0bd6adb9283b21bc45a", func := "loop.example/g03007/laws.FnExactStepClaim", spec := "fnExactStepClaim", inPlace := ["slices.overlaps[loop.example/g03007/impl.Claim]", "slices.overlaps[loop.example/g03007/impl.Trial]"], unfollowed := true, recurses := true, apart := false, narrowed := true }
def FnExactStepClaimUptoSaid : Prop := fnExactStepClaimUptoRow.holds Tryz.pinned (OpenSpec.upto fnExactStepClaimSpec)

/-- 'laws.FnExactStepServe', WHERE WHAT IT READS IS OF BULK AT MOST 1048576: true; the input reads as it did. -/
def fnExactStepServeUptoRow : OpenClaim := { program := "ytcdffihcfeajfaagreat", sum := "e86eb5d56457f3dd7778b3039a22fe95d143b8d7027cb0bd6adb9283b21bc45a", func := "loop.example/g03007/laws.FnExactStepServe", spec := "fnExactStepServe", unfollowed := true, recurses := true, apart := false, narrowed := true }
def FnExactStepServeUptoSaid : Prop := fnExactStepServeUptoRow.holds Tryz.pinned (OpenSpec.upto fnExactStepServeSpec)

/-- 'laws.FnExactStepClear', WHERE WHAT IT READS IS OF BULK AT MOST 1048576: true; the input reads as it did. -/
def fnExactStepClearUptoRow : OpenClaim := { program := "ytcdffihcfeajfaagreat", sum := "e86eb5d56457f3dd7778b3039a22fe95d143b8d7027cb0bd6adb9283b21bc45a", func := "loop.example/g03007/laws.FnExactStepClear", spec := "fnExactStepClear", unfollowed := true, recurses := true, apart := false, narrowed := true }
def FnExactStepClearUptoSaid : Prop := fnExactStepClearUptoRow.holds Tryz.pinned (OpenSpec.upto fnExactStepClearSpec)

/-- 'laws.FnExactStepFind', WHERE WHAT IT READS IS OF BULK AT MOST 1048576: true; the input reads as it did. -/
def fnExactStepFindUptoRow : OpenClaim := { program := "ytcdffihcfeajfaagreat", sum := "e86eb5d56457f3dd7778b3039a22fe95d143b8d7027cb0bd6adb9283b21bc45a", func := "loop.example/g03007/laws.FnExactStepFind", spec := "fnExactStepFind", inPlace := ["slices.overlaps[loop.example/g03007/impl.Find]", "slices.overlaps[loop.example/g03007/impl.Secret]"], unfollowed := true, recurses := true, apart := false, narrowed := true }
def FnExactStepFindUptoSaid : Prop := fnExactStepFindUptoRow.holds Tryz.pinned (OpenSpec.upto fnExactStepFindSpec)

/-- 'laws.FnExactStepSell', WHERE WHAT IT READS IS OF BULK AT MOST 1048576: true; the input reads as it did. -/
def fnExactStepSellUptoRow : OpenClaim := { program := "ytcdffihcfeajfaagreat", sum := "e86eb5d56457f3dd7778b3039a22fe95d143b8d7027cb0bd6adb9283b21bc45a", func := "loop.example/g03007/laws.FnExactStepSell", spec := "fnExactStepSell", unfollowed := true, recurses := true, apart := false, narrowed := true }
def FnExactStepSellUptoSaid : Prop := fnExactStepSellUptoRow.holds Tryz.pinned (OpenSpec.upto fnExactStepSellSpec)

/-- 'laws.FnExactApplyEvent', WHERE WHAT IT READS IS OF BULK AT MOST 1048576: true; the input reads as it did. -/
def fnExactApplyEventUptoRow : OpenClaim := { program := "ytcdffihcfeajfaagreat", sum := "e86eb5d56457f3dd7778b3039a22fe95d143b8d7027cb0bd6adb9283b21bc45a", func := "loop.example/g03007/laws.FnExactApplyEvent", spec := "fnExactApplyEvent", inPlace := ["slices.overlaps[loop.example/g03007/impl.Find]", "slices.overlaps[loop.example/g03007/impl.Secret]", "slices.overlaps[loop.example/g03007/impl.Claim]", "slices.overlaps[loop.example/g03007/impl.Trial]"], unfollowed := true, recurses := true, apart := false, narrowed := true }
def FnExactApplyEventUptoSaid : Prop := fnExactApplyEventUptoRow.holds Tryz.pinned (OpenSpec.upto fnExactApplyEventSpec)

/-- 'laws.FnExactRunEvents', WHERE WHAT IT READS IS OF BULK AT MOST 1048576: true; the input reads as it did. -/
def fnExactRunEventsUptoRow : OpenClaim := { program := "ytcdffihcfeajfaagreat", sum := "e86eb5d56457f3dd7778b3039a22fe95d143b8d7027cb0bd6adb9283b21bc45a", func := "loop.example/g03007/laws.FnExactRunEvents", spec := "fnExactRunEvents", inPlace := ["slices.overlaps[loop.example/g03007/impl.Find]", "slices.overlaps[loop.example/g03007/impl.Secret]", "slices.overlaps[loop.example/g03007/impl.Claim]", "slices.overlaps[loop.example/g03007/impl.Trial]"], unfollowed := true, recurses := true, apart := false, narrowed := true }
def FnExactRunEventsUptoSaid : Prop := fnExactRunEventsUptoRow.holds Tryz.pinned (OpenSpec.upto fnExactRunEventsSpec)

end Rows
end Go.Proofs.YtcdffihcfeajfaaGreat
