/-
  No cell of these rows narrows 'for every input' (looked for: loops, veiled, ifaces, maps, wideKeys, modest, calm, conditions, laid).
  DERIVED. THE GIVEN ROWS OF THIS SEAT. 6 by the template 'for every input the law returns true; each argument reads behind the call as it read before'; 0 by the template 'total and deterministic' (their statements: YtbbnecdpcblcfaaTotals.lean).
  GIVEN WITH THE SEED: the statements are not yours to turn. If you find one false, say at which input.
  Laid BY PROGRAM, IN A SANDBOX (cutbox-rows.mjs): the forced cells as the released guide's own fill.sh prints them over the translation edf0eefe874e18f0… (all of the seat's roots in one cut). By AI agents, Wed Nov 11 2026. No macro, syntax, notation, axiom, sorry.
-/
import Derived.Test.YtbbnecdpcblcfaaChecked
import GoSem.Claim
import GoSem.ClaimJoined
import GoSem.ClaimMapViews
import Derived.JoinedTies
import Derived.KernelRfl
namespace Go.Proofs.Ytbbnecdpcblcfaa
/- THE CELL 'sum', in the pinned program and in every row, IS THE sha256 OF THE DUMP (.gsa) THAT YtbbnecdpcblcfaaProg.lean LOADS. Nothing in Lean hashes anything: it is a label: what it is worth is what the hold of that sum in a sandbox is worth. -/
noncomputable def Try.pinned : Pinned := { name := "ytbbnecdpcblcfaa", sum := "edf0eefe874e18f0e0c23f39d5ac4b93ca88f33f082064bd71c0def95cd68def", checked := Try.checked }
namespace Rows
def none {H : Type} : Left H := { results := [], args := [] }

/-- 'laws.FnExactEventName': WHATEVER THE INPUT: true; the input reads as it did. -/
def fnExactEventNameSpec : ChangeSpec := { name := "fnExactEventName", fn := fun _ => fun
  | [d] => { results := [.lit (.bool true)], args := [d] }
  | _ => none }
def fnExactEventNameRow : OpenClaim := { program := "ytbbnecdpcblcfaa", sum := "edf0eefe874e18f0e0c23f39d5ac4b93ca88f33f082064bd71c0def95cd68def", func := "loop.example/g03007/laws.FnExactEventName", spec := "fnExactEventName", apart := false }
def FnExactEventNameSaid : Prop := fnExactEventNameRow.holds Try.pinned (OpenSpec.ofChange fnExactEventNameSpec)

/-- ITS FALSE NEIGHBOUR: 'it returns false'. Refute it at one input. -/
def fnExactEventNameWrong : ChangeSpec := { name := "fnExactEventName", fn := fun _ => fun
  | [d] => { results := [.lit (.bool false)], args := [d] }
  | _ => none }
def FnExactEventNameWrongFalsely : Prop := fnExactEventNameRow.holds Try.pinned (OpenSpec.ofChange fnExactEventNameWrong)

/-- 'laws.FnExactExampleSlots': WHATEVER THE INPUT: true; the input reads as it did. -/
def fnExactExampleSlotsSpec : ChangeSpec := { name := "fnExactExampleSlots", fn := fun _ => fun
  | [] => { results := [.lit (.bool true)], args := [] }
  | _ => none }
def fnExactExampleSlotsRow : OpenClaim := { program := "ytbbnecdpcblcfaa", sum := "edf0eefe874e18f0e0c23f39d5ac4b93ca88f33f082064bd71c0def95cd68def", func := "loop.example/g03007/laws.FnExactExampleSlots", spec := "fnExactExampleSlots", apart := false }
def FnExactExampleSlotsSaid : Prop := fnExactExampleSlotsRow.holds Try.pinned (OpenSpec.ofChange fnExactExampleSlotsSpec)

/-- ITS FALSE NEIGHBOUR: 'it returns false'. Refute it at one input. -/
def fnExactExampleSlotsWrong : ChangeSpec := { name := "fnExactExampleSlots", fn := fun _ => fun
  | [] => { results := [.lit (.bool false)], args := [] }
  | _ => none }
def FnExactExampleSlotsWrongFalsely : Prop := fnExactExampleSlotsRow.holds Try.pinned (OpenSpec.ofChange fnExactExampleSlotsWrong)

/-- 'laws.FnExactEqualHits': WHATEVER THE INPUT: true; the input reads as it did. -/
def fnExactEqualHitsSpec : ChangeSpec := { name := "fnExactEqualHits", fn := fun _ => fun
  | [d1, d2] => { results := [.lit (.bool true)], args := [d1, d2] }
  | _ => none }
def fnExactEqualHitsRow : OpenClaim := { program := "ytbbnecdpcblcfaa", sum := "edf0eefe874e18f0e0c23f39d5ac4b93ca88f33f082064bd71c0def95cd68def", func := "loop.example/g03007/laws.FnExactEqualHits", spec := "fnExactEqualHits", apart := false }
def FnExactEqualHitsSaid : Prop := fnExactEqualHitsRow.holds Try.pinned (OpenSpec.ofChange fnExactEqualHitsSpec)

/-- ITS FALSE NEIGHBOUR: 'it returns false'. Refute it at one input. -/
def fnExactEqualHitsWrong : ChangeSpec := { name := "fnExactEqualHits", fn := fun _ => fun
  | [d1, d2] => { results := [.lit (.bool false)], args := [d1, d2] }
  | _ => none }
def FnExactEqualHitsWrongFalsely : Prop := fnExactEqualHitsRow.holds Try.pinned (OpenSpec.ofChange fnExactEqualHitsWrong)

/-- 'laws.FnExactOpenClaims': WHATEVER THE INPUT: true; the input reads as it did. -/
def fnExactOpenClaimsSpec : ChangeSpec := { name := "fnExactOpenClaims", fn := fun _ => fun
  | [d] => { results := [.lit (.bool true)], args := [d] }
  | _ => none }
def fnExactOpenClaimsRow : OpenClaim := { program := "ytbbnecdpcblcfaa", sum := "edf0eefe874e18f0e0c23f39d5ac4b93ca88f33f082064bd71c0def95cd68def", func := "loop.example/g03007/laws.FnExactOpenClaims", spec := "fnExactOpenClaims", apart := false }
def FnExactOpenClaimsSaid : Prop := fnExactOpenClaimsRow.holds Try.pinned (OpenSpec.ofChange fnExactOpenClaimsSpec)

/-- ITS FALSE NEIGHBOUR: 'it returns false'. Refute it at one input. -/
def fnExactOpenClaimsWrong : ChangeSpec := { name := "fnExactOpenClaims", fn := fun _ => fun
  | [d] => { results := [.lit (.bool false)], args := [d] }
  | _ => none }
def FnExactOpenClaimsWrongFalsely : Prop := fnExactOpenClaimsRow.holds Try.pinned (OpenSpec.ofChange fnExactOpenClaimsWrong)

/-- 'laws.FnExactTravelCount': WHATEVER THE INPUT: true; the input reads as it did. -/
def fnExactTravelCountSpec : ChangeSpec := { name := "fnExactTravelCount", fn := fun _ => fun
  | [d1, d2] => { results := [.lit (.bool true)], args := [d1, d2] }
  | _ => none }
def fnExactTravelCountRow : OpenClaim := { program := "ytbbnecdpcblcfaa", sum := "edf0eefe874e18f0e0c23f39d5ac4b93ca88f33f082064bd71c0def95cd68def", func := "loop.example/g03007/laws.FnExactTravelCount", spec := "fnExactTravelCount", apart := false }
def FnExactTravelCountSaid : Prop := fnExactTravelCountRow.holds Try.pinned (OpenSpec.ofChange fnExactTravelCountSpec)

/-- ITS FALSE NEIGHBOUR: 'it returns false'. Refute it at one input. -/
def fnExactTravelCountWrong : ChangeSpec := { name := "fnExactTravelCount", fn := fun _ => fun
  | [d1, d2] => { results := [.lit (.bool false)], args := [d1, d2] }
  | _ => none }
def FnExactTravelCountWrongFalsely : Prop := fnExactTravelCountRow.holds Try.pinned (OpenSpec.ofChange fnExactTravelCountWrong)

/-- 'laws.FnExactCountKind': WHATEVER THE INPUT: true; the input reads as it did. -/
def fnExactCountKindSpec : ChangeSpec := { name := "fnExactCountKind", fn := fun _ => fun
  | [d1, d2] => { results := [.lit (.bool true)], args := [d1, d2] }
  | _ => none }
def fnExactCountKindRow : OpenClaim := { program := "ytbbnecdpcblcfaa", sum := "edf0eefe874e18f0e0c23f39d5ac4b93ca88f33f082064bd71c0def95cd68def", func := "loop.example/g03007/laws.FnExactCountKind", spec := "fnExactCountKind", apart := false }
def FnExactCountKindSaid : Prop := fnExactCountKindRow.holds Try.pinned (OpenSpec.ofChange fnExactCountKindSpec)

/-- ITS FALSE NEIGHBOUR: 'it returns false'. Refute it at one input. -/
def fnExactCountKindWrong : ChangeSpec := { name := "fnExactCountKind", fn := fun _ => fun
  | [d1, d2] => { results := [.lit (.bool false)], args := [d1, d2] }
  | _ => none }
def FnExactCountKindWrongFalsely : Prop := fnExactCountKindRow.holds Try.pinned (OpenSpec.ofChange fnExactCountKindWrong)

/- THE SECOND FORM. 'bulk': how many values and letters a reading holds, each counted each time it is reached (what is shared counts as often as it is met; a slice's spare places count too). A statement '..UptoSaid' is the law's where the arguments, and the package variables that the reading takes, are together of bulk at most 1048576: NARROWER than '..Said'. Prove '..Said' where nothing that the law and all that it calls make is longer than what came in: it says more and counts as full. Else prove '..UptoSaid'. A law counts once. -/
mutual
def uptoBulk {H : Type} : DataW H → Nat
  | .lit (.string bytes) => bytes.length + 1
  | .lit _ => 1
  | .nil => 1
  | .ptr d => uptoBulk d + 1
  | .slice elems spare => uptoBulkAll elems + uptoBulkAll spare + 1
  | .agg parts => uptoBulkAll parts + 1
  | .iface _ d => uptoBulk d + 1
  | .map entries => uptoBulkEntries entries + 1
  | .held _ => 1
def uptoBulkAll {H : Type} : List (DataW H) → Nat
  | [] => 0
  | d :: r => uptoBulk d + uptoBulkAll r
def uptoBulkEntries {H : Type} : List (Lit × DataW H) → Nat
  | [] => 0
  | x :: r => uptoBulkEntry x + uptoBulkEntries r
def uptoBulkEntry {H : Type} : Lit × DataW H → Nat
  | (.string bytes, d) => bytes.length + uptoBulk d + 1
  | (_, d) => uptoBulk d + 1
 end
def uptoSmall : (H : Type) → List (DataW H) → Bool := fun _ ds => decide (uptoBulkAll ds ≤ 1048576)
def OpenSpec.upto (s : _root_.Go.ChangeSpec) : _root_.Go.OpenSpec := { _root_.Go.OpenSpec.ofChange s with cond := some uptoSmall }

/-- 'laws.FnExactEventName', WHERE WHAT IT READS IS OF BULK AT MOST 1048576: true; the input reads as it did. -/
def fnExactEventNameUptoRow : OpenClaim := { program := "ytbbnecdpcblcfaa", sum := "edf0eefe874e18f0e0c23f39d5ac4b93ca88f33f082064bd71c0def95cd68def", func := "loop.example/g03007/laws.FnExactEventName", spec := "fnExactEventName", apart := false, narrowed := true }
def FnExactEventNameUptoSaid : Prop := fnExactEventNameUptoRow.holds Try.pinned (OpenSpec.upto fnExactEventNameSpec)

/-- 'laws.FnExactExampleSlots', WHERE WHAT IT READS IS OF BULK AT MOST 1048576: true; the input reads as it did. -/
def fnExactExampleSlotsUptoRow : OpenClaim := { program := "ytbbnecdpcblcfaa", sum := "edf0eefe874e18f0e0c23f39d5ac4b93ca88f33f082064bd71c0def95cd68def", func := "loop.example/g03007/laws.FnExactExampleSlots", spec := "fnExactExampleSlots", apart := false, narrowed := true }
def FnExactExampleSlotsUptoSaid : Prop := fnExactExampleSlotsUptoRow.holds Try.pinned (OpenSpec.upto fnExactExampleSlotsSpec)

/-- 'laws.FnExactEqualHits', WHERE WHAT IT READS IS OF BULK AT MOST 1048576: true; the input reads as it did. -/
def fnExactEqualHitsUptoRow : OpenClaim := { program := "ytbbnecdpcblcfaa", sum := "edf0eefe874e18f0e0c23f39d5ac4b93ca88f33f082064bd71c0def95cd68def", func := "loop.example/g03007/laws.FnExactEqualHits", spec := "fnExactEqualHits", apart := false, narrowed := true }
def FnExactEqualHitsUptoSaid : Prop := fnExactEqualHitsUptoRow.holds Try.pinned (OpenSpec.upto fnExactEqualHitsSpec)

/-- 'laws.FnExactOpenClaims', WHERE WHAT IT READS IS OF BULK AT MOST 1048576: true; the input reads as it did. -/
def fnExactOpenClaimsUptoRow : OpenClaim := { program := "ytbbnecdpcblcfaa", sum := "edf0eefe874e18f0e0c23f39d5ac4b93ca88f33f082064bd71c0def95cd68def", func := "loop.example/g03007/laws.FnExactOpenClaims", spec := "fnExactOpenClaims", apart := false, narrowed := true }
def FnExactOpenClaimsUptoSaid : Prop := fnExactOpenClaimsUptoRow.holds Try.pinned (OpenSpec.upto fnExactOpenClaimsSpec)

/-- 'laws.FnExactTravelCount', WHERE WHAT IT READS IS OF BULK AT MOST 1048576: true; the input reads as it did. -/
def fnExactTravelCountUptoRow : OpenClaim := { program := "ytbbnecdpcblcfaa", sum := "edf0eefe874e18f0e0c23f39d5ac4b93ca88f33f082064bd71c0def95cd68def", func := "loop.example/g03007/laws.FnExactTravelCount", spec := "fnExactTravelCount", apart := false, narrowed := true }
def FnExactTravelCountUptoSaid : Prop := fnExactTravelCountUptoRow.holds Try.pinned (OpenSpec.upto fnExactTravelCountSpec)

/-- 'laws.FnExactCountKind', WHERE WHAT IT READS IS OF BULK AT MOST 1048576: true; the input reads as it did. -/
def fnExactCountKindUptoRow : OpenClaim := { program := "ytbbnecdpcblcfaa", sum := "edf0eefe874e18f0e0c23f39d5ac4b93ca88f33f082064bd71c0def95cd68def", func := "loop.example/g03007/laws.FnExactCountKind", spec := "fnExactCountKind", apart := false, narrowed := true }
def FnExactCountKindUptoSaid : Prop := fnExactCountKindUptoRow.holds Try.pinned (OpenSpec.upto fnExactCountKindSpec)

end Rows
end Go.Proofs.Ytbbnecdpcblcfaa
