/-
  No cell of these rows narrows 'for every input' (looked for: loops, veiled, ifaces, maps, wideKeys, modest, calm, conditions, laid).
  DERIVED. THE GIVEN ROWS OF THIS SEAT. 7 by the template 'for every input the law returns true; each argument reads behind the call as it read before'; 0 by the template 'total and deterministic' (their statements: YtcpelionmmnogaaTotals.lean).
  GIVEN WITH THE SEED: the statements are not yours to turn. If you find one false, say at which input.
  Laid BY PROGRAM, IN A SANDBOX (cutbox-rows.mjs): the forced cells as the released guide's own fill.sh prints them over the translation 554d741b4c6df5d9… (all of the seat's roots in one cut). By AI agents, Wed Nov 11 2026. No macro, syntax, notation, axiom, sorry.
-/
import Derived.Test.YtcpelionmmnogaaChecked
import GoSem.Claim
import GoSem.ClaimJoined
import GoSem.ClaimMapViews
import Derived.JoinedTies
import Derived.KernelRfl
namespace Go.Proofs.Ytcpelionmmnogaa
/- THE CELL 'sum', in the pinned program and in every row, IS THE sha256 OF THE DUMP (.gsa) THAT YtcpelionmmnogaaProg.lean LOADS. Nothing in Lean hashes anything: it is a label: what it is worth is what the hold of that sum in a sandbox is worth. -/
noncomputable def Try.pinned : Pinned := { name := "ytcpelionmmnogaa", sum := "554d741b4c6df5d9f3bfad4cfb62fdc3d03a629f9dfae9072507aa086660d8f5", checked := Try.checked }
namespace Rows
def none {H : Type} : Left H := { results := [], args := [] }

/-- 'laws.FnExactFindAll': WHATEVER THE INPUT: true; the input reads as it did. -/
def fnExactFindAllSpec : ChangeSpec := { name := "fnExactFindAll", fn := fun _ => fun
  | [d1, d2] => { results := [.lit (.bool true)], args := [d1, d2] }
  | _ => none }
def fnExactFindAllRow : OpenClaim := { program := "ytcpelionmmnogaa", sum := "554d741b4c6df5d9f3bfad4cfb62fdc3d03a629f9dfae9072507aa086660d8f5", func := "loop.example/g03007/laws.FnExactFindAll", spec := "fnExactFindAll", apart := false }
def FnExactFindAllSaid : Prop := fnExactFindAllRow.holds Try.pinned (OpenSpec.ofChange fnExactFindAllSpec)

/-- ITS FALSE NEIGHBOUR: 'it returns false'. Refute it at one input. -/
def fnExactFindAllWrong : ChangeSpec := { name := "fnExactFindAll", fn := fun _ => fun
  | [d1, d2] => { results := [.lit (.bool false)], args := [d1, d2] }
  | _ => none }
def FnExactFindAllWrongFalsely : Prop := fnExactFindAllRow.holds Try.pinned (OpenSpec.ofChange fnExactFindAllWrong)

/-- 'laws.FnExactServedShare': WHATEVER THE INPUT: true; the input reads as it did. -/
def fnExactServedShareSpec : ChangeSpec := { name := "fnExactServedShare", fn := fun _ => fun
  | [d] => { results := [.lit (.bool true)], args := [d] }
  | _ => none }
def fnExactServedShareRow : OpenClaim := { program := "ytcpelionmmnogaa", sum := "554d741b4c6df5d9f3bfad4cfb62fdc3d03a629f9dfae9072507aa086660d8f5", func := "loop.example/g03007/laws.FnExactServedShare", spec := "fnExactServedShare", apart := false }
def FnExactServedShareSaid : Prop := fnExactServedShareRow.holds Try.pinned (OpenSpec.ofChange fnExactServedShareSpec)

/-- ITS FALSE NEIGHBOUR: 'it returns false'. Refute it at one input. -/
def fnExactServedShareWrong : ChangeSpec := { name := "fnExactServedShare", fn := fun _ => fun
  | [d] => { results := [.lit (.bool false)], args := [d] }
  | _ => none }
def FnExactServedShareWrongFalsely : Prop := fnExactServedShareRow.holds Try.pinned (OpenSpec.ofChange fnExactServedShareWrong)

/-- 'laws.FnExactTrialOf': WHATEVER THE INPUT: true; the input reads as it did. -/
def fnExactTrialOfSpec : ChangeSpec := { name := "fnExactTrialOf", fn := fun _ => fun
  | [d1, d2] => { results := [.lit (.bool true)], args := [d1, d2] }
  | _ => none }
def fnExactTrialOfRow : OpenClaim := { program := "ytcpelionmmnogaa", sum := "554d741b4c6df5d9f3bfad4cfb62fdc3d03a629f9dfae9072507aa086660d8f5", func := "loop.example/g03007/laws.FnExactTrialOf", spec := "fnExactTrialOf", unfollowed := true, recurses := true, apart := false }
def FnExactTrialOfSaid : Prop := fnExactTrialOfRow.holds Try.pinned (OpenSpec.ofChange fnExactTrialOfSpec)

/-- ITS FALSE NEIGHBOUR: 'it returns false'. Refute it at one input. -/
def fnExactTrialOfWrong : ChangeSpec := { name := "fnExactTrialOf", fn := fun _ => fun
  | [d1, d2] => { results := [.lit (.bool false)], args := [d1, d2] }
  | _ => none }
def FnExactTrialOfWrongFalsely : Prop := fnExactTrialOfRow.holds Try.pinned (OpenSpec.ofChange fnExactTrialOfWrong)

/-- 'laws.FnExactAreOwners': WHATEVER THE INPUT: true; the input reads as it did. -/
def fnExactAreOwnersSpec : ChangeSpec := { name := "fnExactAreOwners", fn := fun _ => fun
  | [d] => { results := [.lit (.bool true)], args := [d] }
  | _ => none }
def fnExactAreOwnersRow : OpenClaim := { program := "ytcpelionmmnogaa", sum := "554d741b4c6df5d9f3bfad4cfb62fdc3d03a629f9dfae9072507aa086660d8f5", func := "loop.example/g03007/laws.FnExactAreOwners", spec := "fnExactAreOwners", unfollowed := true, recurses := true, apart := false }
def FnExactAreOwnersSaid : Prop := fnExactAreOwnersRow.holds Try.pinned (OpenSpec.ofChange fnExactAreOwnersSpec)

/-- ITS FALSE NEIGHBOUR: 'it returns false'. Refute it at one input. -/
def fnExactAreOwnersWrong : ChangeSpec := { name := "fnExactAreOwners", fn := fun _ => fun
  | [d] => { results := [.lit (.bool false)], args := [d] }
  | _ => none }
def FnExactAreOwnersWrongFalsely : Prop := fnExactAreOwnersRow.holds Try.pinned (OpenSpec.ofChange fnExactAreOwnersWrong)

/-- 'laws.FnExactEqualHouses': WHATEVER THE INPUT: true; the input reads as it did. -/
def fnExactEqualHousesSpec : ChangeSpec := { name := "fnExactEqualHouses", fn := fun _ => fun
  | [d1, d2] => { results := [.lit (.bool true)], args := [d1, d2] }
  | _ => none }
def fnExactEqualHousesRow : OpenClaim := { program := "ytcpelionmmnogaa", sum := "554d741b4c6df5d9f3bfad4cfb62fdc3d03a629f9dfae9072507aa086660d8f5", func := "loop.example/g03007/laws.FnExactEqualHouses", spec := "fnExactEqualHouses", unfollowed := true, recurses := true, apart := false }
def FnExactEqualHousesSaid : Prop := fnExactEqualHousesRow.holds Try.pinned (OpenSpec.ofChange fnExactEqualHousesSpec)

/-- ITS FALSE NEIGHBOUR: 'it returns false'. Refute it at one input. -/
def fnExactEqualHousesWrong : ChangeSpec := { name := "fnExactEqualHouses", fn := fun _ => fun
  | [d1, d2] => { results := [.lit (.bool false)], args := [d1, d2] }
  | _ => none }
def FnExactEqualHousesWrongFalsely : Prop := fnExactEqualHousesRow.holds Try.pinned (OpenSpec.ofChange fnExactEqualHousesWrong)

/-- 'laws.FnExactIsNeverEarly': WHATEVER THE INPUT: true; the input reads as it did. -/
def fnExactIsNeverEarlySpec : ChangeSpec := { name := "fnExactIsNeverEarly", fn := fun _ => fun
  | [d] => { results := [.lit (.bool true)], args := [d] }
  | _ => none }
def fnExactIsNeverEarlyRow : OpenClaim := { program := "ytcpelionmmnogaa", sum := "554d741b4c6df5d9f3bfad4cfb62fdc3d03a629f9dfae9072507aa086660d8f5", func := "loop.example/g03007/laws.FnExactIsNeverEarly", spec := "fnExactIsNeverEarly", unfollowed := true, recurses := true, apart := false }
def FnExactIsNeverEarlySaid : Prop := fnExactIsNeverEarlyRow.holds Try.pinned (OpenSpec.ofChange fnExactIsNeverEarlySpec)

/-- ITS FALSE NEIGHBOUR: 'it returns false'. Refute it at one input. -/
def fnExactIsNeverEarlyWrong : ChangeSpec := { name := "fnExactIsNeverEarly", fn := fun _ => fun
  | [d] => { results := [.lit (.bool false)], args := [d] }
  | _ => none }
def FnExactIsNeverEarlyWrongFalsely : Prop := fnExactIsNeverEarlyRow.holds Try.pinned (OpenSpec.ofChange fnExactIsNeverEarlyWrong)

/-- 'laws.FnExactIsBalanced': WHATEVER THE INPUT: true; the input reads as it did. -/
def fnExactIsBalancedSpec : ChangeSpec := { name := "fnExactIsBalanced", fn := fun _ => fun
  | [d] => { results := [.lit (.bool true)], args := [d] }
  | _ => none }
def fnExactIsBalancedRow : OpenClaim := { program := "ytcpelionmmnogaa", sum := "554d741b4c6df5d9f3bfad4cfb62fdc3d03a629f9dfae9072507aa086660d8f5", func := "loop.example/g03007/laws.FnExactIsBalanced", spec := "fnExactIsBalanced", recurses := true, apart := false }
def FnExactIsBalancedSaid : Prop := fnExactIsBalancedRow.holds Try.pinned (OpenSpec.ofChange fnExactIsBalancedSpec)

/-- ITS FALSE NEIGHBOUR: 'it returns false'. Refute it at one input. -/
def fnExactIsBalancedWrong : ChangeSpec := { name := "fnExactIsBalanced", fn := fun _ => fun
  | [d] => { results := [.lit (.bool false)], args := [d] }
  | _ => none }
def FnExactIsBalancedWrongFalsely : Prop := fnExactIsBalancedRow.holds Try.pinned (OpenSpec.ofChange fnExactIsBalancedWrong)

/- THE SECOND FORM. 'bulk': how many values and letters a reading holds, each counted each time it is reached (what is shared counts as often as it is met; a slice's spare places count too). A statement '..UptoSaid' is the law's where the arguments, and the package variables that the reading takes, are together of bulk at most 1048576: NARROWER than '..Said'. Prove '..Said' where nothing that the law and all that it calls make is longer than what came in: it says more and counts as full. Else prove '..UptoSaid'. A law counts once. -/
mutual
def uptoBulk {H : Type} : DataW H → Nat
  | .lit (.string bytes) => bytes.length + 1
  | .lit _ => 1
  | .nil => 1
  | .ptr d => uptoBulk d + 1
  | .slice elems spare => uptoBulkAll elems + uptoBulkAll spare + 1
  | .agg parts => uptoBulkAll parts + 1
  | .iface _ d => uptoBulk d + 1
  | .map entries => uptoBulkEntries entries + 1
  | .held _ => 1
def uptoBulkAll {H : Type} : List (DataW H) → Nat
  | [] => 0
  | d :: r => uptoBulk d + uptoBulkAll r
def uptoBulkEntries {H : Type} : List (Lit × DataW H) → Nat
  | [] => 0
  | x :: r => uptoBulkEntry x + uptoBulkEntries r
def uptoBulkEntry {H : Type} : Lit × DataW H → Nat
  | (.string bytes, d) => bytes.length + uptoBulk d + 1
  | (_, d) => uptoBulk d + 1
 end
def uptoSmall : (H : Type) → List (DataW H) → Bool := fun _ ds => decide (uptoBulkAll ds ≤ 1048576)
def OpenSpec.upto (s : _root_.Go.ChangeSpec) : _root_.Go.OpenSpec := { _root_.Go.OpenSpec.ofChange s with cond := some uptoSmall }

/-- 'laws.FnExactFindAll', WHERE WHAT IT READS IS OF BULK AT MOST 1048576: true; the input reads as it did. -/
def fnExactFindAllUptoRow : OpenClaim := { program := "ytcpelionmmnogaa", sum := "554d741b4c6df5d9f3bfad4cfb62fdc3d03a629f9dfae9072507aa086660d8f5", func := "loop.example/g03007/laws.FnExactFindAll", spec := "fnExactFindAll", apart := false, narrowed := true }
def FnExactFindAllUptoSaid : Prop := fnExactFindAllUptoRow.holds Try.pinned (OpenSpec.upto fnExactFindAllSpec)

/-- 'laws.FnExactServedShare', WHERE WHAT IT READS IS OF BULK AT MOST 1048576: true; the input reads as it did. -/
def fnExactServedShareUptoRow : OpenClaim := { program := "ytcpelionmmnogaa", sum := "554d741b4c6df5d9f3bfad4cfb62fdc3d03a629f9dfae9072507aa086660d8f5", func := "loop.example/g03007/laws.FnExactServedShare", spec := "fnExactServedShare", apart := false, narrowed := true }
def FnExactServedShareUptoSaid : Prop := fnExactServedShareUptoRow.holds Try.pinned (OpenSpec.upto fnExactServedShareSpec)

/-- 'laws.FnExactTrialOf', WHERE WHAT IT READS IS OF BULK AT MOST 1048576: true; the input reads as it did. -/
def fnExactTrialOfUptoRow : OpenClaim := { program := "ytcpelionmmnogaa", sum := "554d741b4c6df5d9f3bfad4cfb62fdc3d03a629f9dfae9072507aa086660d8f5", func := "loop.example/g03007/laws.FnExactTrialOf", spec := "fnExactTrialOf", unfollowed := true, recurses := true, apart := false, narrowed := true }
def FnExactTrialOfUptoSaid : Prop := fnExactTrialOfUptoRow.holds Try.pinned (OpenSpec.upto fnExactTrialOfSpec)

/-- 'laws.FnExactAreOwners', WHERE WHAT IT READS IS OF BULK AT MOST 1048576: true; the input reads as it did. -/
def fnExactAreOwnersUptoRow : OpenClaim := { program := "ytcpelionmmnogaa", sum := "554d741b4c6df5d9f3bfad4cfb62fdc3d03a629f9dfae9072507aa086660d8f5", func := "loop.example/g03007/laws.FnExactAreOwners", spec := "fnExactAreOwners", unfollowed := true, recurses := true, apart := false, narrowed := true }
def FnExactAreOwnersUptoSaid : Prop := fnExactAreOwnersUptoRow.holds Try.pinned (OpenSpec.upto fnExactAreOwnersSpec)

/-- 'laws.FnExactEqualHouses', WHERE WHAT IT READS IS OF BULK AT MOST 1048576: true; the input reads as it did. -/
def fnExactEqualHousesUptoRow : OpenClaim := { program := "ytcpelionmmnogaa", sum := "554d741b4c6df5d9f3bfad4cfb62fdc3d03a629f9dfae9072507aa086660d8f5", func := "loop.example/g03007/laws.FnExactEqualHouses", spec := "fnExactEqualHouses", unfollowed := true, recurses := true, apart := false, narrowed := true }
def FnExactEqualHousesUptoSaid : Prop := fnExactEqualHousesUptoRow.holds Try.pinned (OpenSpec.upto fnExactEqualHousesSpec)

/-- 'laws.FnExactIsNeverEarly', WHERE WHAT IT READS IS OF BULK AT MOST 1048576: true; the input reads as it did. -/
def fnExactIsNeverEarlyUptoRow : OpenClaim := { program := "ytcpelionmmnogaa", sum := "554d741b4c6df5d9f3bfad4cfb62fdc3d03a629f9dfae9072507aa086660d8f5", func := "loop.example/g03007/laws.FnExactIsNeverEarly", spec := "fnExactIsNeverEarly", unfollowed := true, recurses := true, apart := false, narrowed := true }
def FnExactIsNeverEarlyUptoSaid : Prop := fnExactIsNeverEarlyUptoRow.holds Try.pinned (OpenSpec.upto fnExactIsNeverEarlySpec)

/-- 'laws.FnExactIsBalanced', WHERE WHAT IT READS IS OF BULK AT MOST 1048576: true; the input reads as it did. -/
def fnExactIsBalancedUptoRow : OpenClaim := { program := "ytcpelionmmnogaa", sum := "554d741b4c6df5d9f3bfad4cfb62fdc3d03a629f9dfae9072507aa086660d8f5", func := "loop.example/g03007/laws.FnExactIsBalanced", spec := "fnExactIsBalanced", recurses := true, apart := false, narrowed := true }
def FnExactIsBalancedUptoSaid : Prop := fnExactIsBalancedUptoRow.holds Try.pinned (OpenSpec.upto fnExactIsBalancedSpec)

end Rows
end Go.Proofs.Ytcpelionmmnogaa
