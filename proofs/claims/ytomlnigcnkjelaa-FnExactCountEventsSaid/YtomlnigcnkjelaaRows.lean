/-
  No cell of these rows narrows 'for every input' (looked for: loops, veiled, ifaces, maps, wideKeys, modest, calm, conditions, laid).
  DERIVED. THE GIVEN ROWS OF THIS SEAT. 6 by the template 'for every input the law returns true; each argument reads behind the call as it read before'; 0 by the template 'total and deterministic' (their statements: YtomlnigcnkjelaaTotals.lean).
  GIVEN WITH THE SEED: the statements are not yours to turn. If you find one false, say at which input.
  Laid BY PROGRAM, IN A SANDBOX (cutbox-rows.mjs): the forced cells as the released guide's own fill.sh prints them over the translation 84941441b7c8ac9b… (all of the seat's roots in one cut). By AI agents, Wed Nov 11 2026. No macro, syntax, notation, axiom, sorry.
-/
import Derived.Test.YtomlnigcnkjelaaChecked
import GoSem.Claim
import GoSem.ClaimJoined
import GoSem.ClaimMapViews
import Derived.JoinedTies
import Derived.KernelRfl
namespace Go.Proofs.Ytomlnigcnkjelaa
/- THE CELL 'sum', in the pinned program and in every row, IS THE sha256 OF THE DUMP (.gsa) THAT YtomlnigcnkjelaaProg.lean LOADS. Nothing in Lean hashes anything: it is a label: what it is worth is what the hold of that sum in a sandbox is worth. -/
noncomputable def Try.pinned : Pinned := { name := "ytomlnigcnkjelaa", sum := "84941441b7c8ac9b5f2f966ca9b8dc0c2f3d4e324030a442e2d4741d4c995e6a", checked := Try.checked }
namespace Rows
def none {H : Type} : Left H := { results := [], args := [] }

/-- 'laws.FnExactEndOf': WHATEVER THE INPUT: true; the input reads as it did. -/
def fnExactEndOfSpec : ChangeSpec := { name := "fnExactEndOf", fn := fun _ => fun
  | [d1, d2] => { results := [.lit (.bool true)], args := [d1, d2] }
  | _ => none }
def fnExactEndOfRow : OpenClaim := { program := "ytomlnigcnkjelaa", sum := "84941441b7c8ac9b5f2f966ca9b8dc0c2f3d4e324030a442e2d4741d4c995e6a", func := "loop.example/g03007/laws.FnExactEndOf", spec := "fnExactEndOf", apart := false }
def FnExactEndOfSaid : Prop := fnExactEndOfRow.holds Try.pinned (OpenSpec.ofChange fnExactEndOfSpec)

/-- ITS FALSE NEIGHBOUR: 'it returns false'. Refute it at one input. -/
def fnExactEndOfWrong : ChangeSpec := { name := "fnExactEndOf", fn := fun _ => fun
  | [d1, d2] => { results := [.lit (.bool false)], args := [d1, d2] }
  | _ => none }
def FnExactEndOfWrongFalsely : Prop := fnExactEndOfRow.holds Try.pinned (OpenSpec.ofChange fnExactEndOfWrong)

/-- 'laws.FnExactOldestFind': WHATEVER THE INPUT: true; the input reads as it did. -/
def fnExactOldestFindSpec : ChangeSpec := { name := "fnExactOldestFind", fn := fun _ => fun
  | [d] => { results := [.lit (.bool true)], args := [d] }
  | _ => none }
def fnExactOldestFindRow : OpenClaim := { program := "ytomlnigcnkjelaa", sum := "84941441b7c8ac9b5f2f966ca9b8dc0c2f3d4e324030a442e2d4741d4c995e6a", func := "loop.example/g03007/laws.FnExactOldestFind", spec := "fnExactOldestFind", apart := false }
def FnExactOldestFindSaid : Prop := fnExactOldestFindRow.holds Try.pinned (OpenSpec.ofChange fnExactOldestFindSpec)

/-- ITS FALSE NEIGHBOUR: 'it returns false'. Refute it at one input. -/
def fnExactOldestFindWrong : ChangeSpec := { name := "fnExactOldestFind", fn := fun _ => fun
  | [d] => { results := [.lit (.bool false)], args := [d] }
  | _ => none }
def FnExactOldestFindWrongFalsely : Prop := fnExactOldestFindRow.holds Try.pinned (OpenSpec.ofChange fnExactOldestFindWrong)

/-- 'laws.FnExactWorthOf': WHATEVER THE INPUT: true; the input reads as it did. -/
def fnExactWorthOfSpec : ChangeSpec := { name := "fnExactWorthOf", fn := fun _ => fun
  | [d] => { results := [.lit (.bool true)], args := [d] }
  | _ => none }
def fnExactWorthOfRow : OpenClaim := { program := "ytomlnigcnkjelaa", sum := "84941441b7c8ac9b5f2f966ca9b8dc0c2f3d4e324030a442e2d4741d4c995e6a", func := "loop.example/g03007/laws.FnExactWorthOf", spec := "fnExactWorthOf", apart := false }
def FnExactWorthOfSaid : Prop := fnExactWorthOfRow.holds Try.pinned (OpenSpec.ofChange fnExactWorthOfSpec)

/-- ITS FALSE NEIGHBOUR: 'it returns false'. Refute it at one input. -/
def fnExactWorthOfWrong : ChangeSpec := { name := "fnExactWorthOf", fn := fun _ => fun
  | [d] => { results := [.lit (.bool false)], args := [d] }
  | _ => none }
def FnExactWorthOfWrongFalsely : Prop := fnExactWorthOfRow.holds Try.pinned (OpenSpec.ofChange fnExactWorthOfWrong)

/-- 'laws.FnExactBusiestPlace': WHATEVER THE INPUT: true; the input reads as it did. -/
def fnExactBusiestPlaceSpec : ChangeSpec := { name := "fnExactBusiestPlace", fn := fun _ => fun
  | [d] => { results := [.lit (.bool true)], args := [d] }
  | _ => none }
def fnExactBusiestPlaceRow : OpenClaim := { program := "ytomlnigcnkjelaa", sum := "84941441b7c8ac9b5f2f966ca9b8dc0c2f3d4e324030a442e2d4741d4c995e6a", func := "loop.example/g03007/laws.FnExactBusiestPlace", spec := "fnExactBusiestPlace", apart := false }
def FnExactBusiestPlaceSaid : Prop := fnExactBusiestPlaceRow.holds Try.pinned (OpenSpec.ofChange fnExactBusiestPlaceSpec)

/-- ITS FALSE NEIGHBOUR: 'it returns false'. Refute it at one input. -/
def fnExactBusiestPlaceWrong : ChangeSpec := { name := "fnExactBusiestPlace", fn := fun _ => fun
  | [d] => { results := [.lit (.bool false)], args := [d] }
  | _ => none }
def FnExactBusiestPlaceWrongFalsely : Prop := fnExactBusiestPlaceRow.holds Try.pinned (OpenSpec.ofChange fnExactBusiestPlaceWrong)

/-- 'laws.FnExactStayHours': WHATEVER THE INPUT: true; the input reads as it did. -/
def fnExactStayHoursSpec : ChangeSpec := { name := "fnExactStayHours", fn := fun _ => fun
  | [d1, d2, d3] => { results := [.lit (.bool true)], args := [d1, d2, d3] }
  | _ => none }
def fnExactStayHoursRow : OpenClaim := { program := "ytomlnigcnkjelaa", sum := "84941441b7c8ac9b5f2f966ca9b8dc0c2f3d4e324030a442e2d4741d4c995e6a", func := "loop.example/g03007/laws.FnExactStayHours", spec := "fnExactStayHours", apart := false }
def FnExactStayHoursSaid : Prop := fnExactStayHoursRow.holds Try.pinned (OpenSpec.ofChange fnExactStayHoursSpec)

/-- ITS FALSE NEIGHBOUR: 'it returns false'. Refute it at one input. -/
def fnExactStayHoursWrong : ChangeSpec := { name := "fnExactStayHours", fn := fun _ => fun
  | [d1, d2, d3] => { results := [.lit (.bool false)], args := [d1, d2, d3] }
  | _ => none }
def FnExactStayHoursWrongFalsely : Prop := fnExactStayHoursRow.holds Try.pinned (OpenSpec.ofChange fnExactStayHoursWrong)

/-- 'laws.FnExactCountEvents': WHATEVER THE INPUT: true; the input reads as it did. -/
def fnExactCountEventsSpec : ChangeSpec := { name := "fnExactCountEvents", fn := fun _ => fun
  | [d1, d2] => { results := [.lit (.bool true)], args := [d1, d2] }
  | _ => none }
def fnExactCountEventsRow : OpenClaim := { program := "ytomlnigcnkjelaa", sum := "84941441b7c8ac9b5f2f966ca9b8dc0c2f3d4e324030a442e2d4741d4c995e6a", func := "loop.example/g03007/laws.FnExactCountEvents", spec := "fnExactCountEvents", apart := false }
def FnExactCountEventsSaid : Prop := fnExactCountEventsRow.holds Try.pinned (OpenSpec.ofChange fnExactCountEventsSpec)

/-- ITS FALSE NEIGHBOUR: 'it returns false'. Refute it at one input. -/
def fnExactCountEventsWrong : ChangeSpec := { name := "fnExactCountEvents", fn := fun _ => fun
  | [d1, d2] => { results := [.lit (.bool false)], args := [d1, d2] }
  | _ => none }
def FnExactCountEventsWrongFalsely : Prop := fnExactCountEventsRow.holds Try.pinned (OpenSpec.ofChange fnExactCountEventsWrong)

/- THE SECOND FORM. 'bulk': how many values and letters a reading holds, each counted each time it is reached (what is shared counts as often as it is met; a slice's spare places count too). A statement '..UptoSaid' is the law's where the arguments, and the package variables that the reading takes, are together of bulk at most 1048576: NARROWER than '..Said'. Prove '..Said' where nothing that the law and all that it calls make is longer than what came in: it says more and counts as full. Else prove '..UptoSaid'. A law counts once. -/
mutual
def uptoBulk {H : Type} : DataW H → Nat
  | .lit (.string bytes) => bytes.length + 1
  | .lit _ => 1
  | .nil => 1
  | .ptr d => uptoBulk d + 1
  | .slice elems spare => uptoBulkAll elems + uptoBulkAll spare + 1
  | .agg parts => uptoBulkAll parts + 1
  | .iface _ d => uptoBulk d + 1
  | .map entries => uptoBulkEntries entries + 1
  | .held _ => 1
def uptoBulkAll {H : Type} : List (DataW H) → Nat
  | [] => 0
  | d :: r => uptoBulk d + uptoBulkAll r
def uptoBulkEntries {H : Type} : List (Lit × DataW H) → Nat
  | [] => 0
  | x :: r => uptoBulkEntry x + uptoBulkEntries r
def uptoBulkEntry {H : Type} : Lit × DataW H → Nat
  | (.string bytes, d) => bytes.length + uptoBulk d + 1
  | (_, d) => uptoBulk d + 1
 end
def uptoSmall : (H : Type) → List (DataW H) → Bool := fun _ ds => decide (uptoBulkAll ds ≤ 1048576)
def OpenSpec.upto (s : _root_.Go.ChangeSpec) : _root_.Go.OpenSpec := { _root_.Go.OpenSpec.ofChange s with cond := some uptoSmall }

/-- 'laws.FnExactEndOf', WHERE WHAT IT READS IS OF BULK AT MOST 1048576: true; the input reads as it did. -/
def fnExactEndOfUptoRow : OpenClaim := { program := "ytomlnigcnkjelaa", sum := "84941441b7c8ac9b5f2f966ca9b8dc0c2f3d4e324030a442e2d4741d4c995e6a", func := "loop.example/g03007/laws.FnExactEndOf", spec := "fnExactEndOf", apart := false, narrowed := true }
def FnExactEndOfUptoSaid : Prop := fnExactEndOfUptoRow.holds Try.pinned (OpenSpec.upto fnExactEndOfSpec)

/-- 'laws.FnExactOldestFind', WHERE WHAT IT READS IS OF BULK AT MOST 1048576: true; the input reads as it did. -/
def fnExactOldestFindUptoRow : OpenClaim := { program := "ytomlnigcnkjelaa", sum := "84941441b7c8ac9b5f2f966ca9b8dc0c2f3d4e324030a442e2d4741d4c995e6a", func := "loop.example/g03007/laws.FnExactOldestFind", spec := "fnExactOldestFind", apart := false, narrowed := true }
def FnExactOldestFindUptoSaid : Prop := fnExactOldestFindUptoRow.holds Try.pinned (OpenSpec.upto fnExactOldestFindSpec)

/-- 'laws.FnExactWorthOf', WHERE WHAT IT READS IS OF BULK AT MOST 1048576: true; the input reads as it did. -/
def fnExactWorthOfUptoRow : OpenClaim := { program := "ytomlnigcnkjelaa", sum := "84941441b7c8ac9b5f2f966ca9b8dc0c2f3d4e324030a442e2d4741d4c995e6a", func := "loop.example/g03007/laws.FnExactWorthOf", spec := "fnExactWorthOf", apart := false, narrowed := true }
def FnExactWorthOfUptoSaid : Prop := fnExactWorthOfUptoRow.holds Try.pinned (OpenSpec.upto fnExactWorthOfSpec)

/-- 'laws.FnExactBusiestPlace', WHERE WHAT IT READS IS OF BULK AT MOST 1048576: true; the input reads as it did. -/
def fnExactBusiestPlaceUptoRow : OpenClaim := { program := "ytomlnigcnkjelaa", sum := "84941441b7c8ac9b5f2f966ca9b8dc0c2f3d4e324030a442e2d4741d4c995e6a", func := "loop.example/g03007/laws.FnExactBusiestPlace", spec := "fnExactBusiestPlace", apart := false, narrowed := true }
def FnExactBusiestPlaceUptoSaid : Prop := fnExactBusiestPlaceUptoRow.holds Try.pinned (OpenSpec.upto fnExactBusiestPlaceSpec)

/-- 'laws.FnExactStayHours', WHERE WHAT IT READS IS OF BULK AT MOST 1048576: true; the input reads as it did. -/
def fnExactStayHoursUptoRow : OpenClaim := { program := "ytomlnigcnkjelaa", sum := "84941441b7c8ac9b5f2f966ca9b8dc0c2f3d4e324030a442e2d4741d4c995e6a", func := "loop.example/g03007/laws.FnExactStayHours", spec := "fnExactStayHours", apart := false, narrowed := true }
def FnExactStayHoursUptoSaid : Prop := fnExactStayHoursUptoRow.holds Try.pinned (OpenSpec.upto fnExactStayHoursSpec)

/-- 'laws.FnExactCountEvents', WHERE WHAT IT READS IS OF BULK AT MOST 1048576: true; the input reads as it did. -/
def fnExactCountEventsUptoRow : OpenClaim := { program := "ytomlnigcnkjelaa", sum := "84941441b7c8ac9b5f2f966ca9b8dc0c2f3d4e324030a442e2d4741d4c995e6a", func := "loop.example/g03007/laws.FnExactCountEvents", spec := "fnExactCountEvents", apart := false, narrowed := true }
def FnExactCountEventsUptoSaid : Prop := fnExactCountEventsUptoRow.holds Try.pinned (OpenSpec.upto fnExactCountEventsSpec)

end Rows
end Go.Proofs.Ytomlnigcnkjelaa
