/-
  NARROWER THAN 'FOR EVERY INPUT', by the rows' own cells (each row's printed sentence says how): FnExactFormatCents: laid · FnExactFormatNumbers: laid · FnExactFormatHits: laid · FnExactFormatSlots: laid · FnExactFormatClaims: laid · FnExactStoryOf: laid · FnExactFormatHouse: laid.
  DERIVED. THE GIVEN ROWS OF THIS SEAT. 7 by the template 'for every input the law returns true; each argument reads behind the call as it read before'; 0 by the template 'total and deterministic' (their statements: YtaajilepbclmfaaDoorTotals.lean).
  GIVEN WITH THE SEED: the statements are not yours to turn. If you find one false, say at which input.
  Laid BY PROGRAM, IN A SANDBOX (cutbox-rows.mjs): the forced cells as the released guide's own fill.sh prints them over the translation f35f2aee5f74a555… (all of the seat's roots in one cut). By AI agents, Wed Nov 11 2026. No macro, syntax, notation, axiom, sorry.
-/
import Derived.Test.YtaajilepbclmfaaDoorChecked
import GoSem.Claim
import GoSem.ClaimJoined
import GoSem.ClaimMapViews
import Derived.JoinedTies
import Derived.KernelRfl
namespace Go.Proofs.YtaajilepbclmfaaDoor
/- THE CELL 'sum', in the pinned program and in every row, IS THE sha256 OF THE DUMP (.gsa) THAT YtaajilepbclmfaaDoorProg.lean LOADS. Nothing in Lean hashes anything: it is a label: what it is worth is what the hold of that sum in a sandbox is worth. -/
noncomputable def Tryd.pinned : Pinned := { name := "ytaajilepbclmfaadoor", sum := "f35f2aee5f74a555d29f0064390fb94b92b1e7fa2aeddbcc7ab3d04cb6e32b1b", checked := Tryd.checked }
namespace Rows
def none {H : Type} : Left H := { results := [], args := [] }

/- WHAT THE LISTED PACKAGE-LEVEL VARIABLES READ AS WHEN THE CALL BEGINS. Each datum BY PROGRAM (the guide's laid-datum.mjs) off the statement by which the dump's own 'gosem.cut.vars' lays the variable. In a bare row this is a premise. The card (YtaajilepbclmfaaDoorCards.lean) ties it to the program's text. -/
def laid_math_bits_deBruijn32tab {H : Type} : DataW H := .agg [.lit (.int .u8 0), .lit (.int .u8 1), .lit (.int .u8 28), .lit (.int .u8 2), .lit (.int .u8 29), .lit (.int .u8 14), .lit (.int .u8 24), .lit (.int .u8 3), .lit (.int .u8 30), .lit (.int .u8 22), .lit (.int .u8 20), .lit (.int .u8 15), .lit (.int .u8 25), .lit (.int .u8 17), .lit (.int .u8 4), .lit (.int .u8 8), .lit (.int .u8 31), .lit (.int .u8 27), .lit (.int .u8 13), .lit (.int .u8 23), .lit (.int .u8 21), .lit (.int .u8 19), .lit (.int .u8 16), .lit (.int .u8 7), .lit (.int .u8 26), .lit (.int .u8 12), .lit (.int .u8 18), .lit (.int .u8 6), .lit (.int .u8 11), .lit (.int .u8 5), .lit (.int .u8 10), .lit (.int .u8 9)]
def laid_math_bits_deBruijn64tab {H : Type} : DataW H := .agg [.lit (.int .u8 0), .lit (.int .u8 1), .lit (.int .u8 56), .lit (.int .u8 2), .lit (.int .u8 57), .lit (.int .u8 49), .lit (.int .u8 28), .lit (.int .u8 3), .lit (.int .u8 61), .lit (.int .u8 58), .lit (.int .u8 42), .lit (.int .u8 50), .lit (.int .u8 38), .lit (.int .u8 29), .lit (.int .u8 17), .lit (.int .u8 4), .lit (.int .u8 62), .lit (.int .u8 47), .lit (.int .u8 59), .lit (.int .u8 36), .lit (.int .u8 45), .lit (.int .u8 43), .lit (.int .u8 51), .lit (.int .u8 22), .lit (.int .u8 53), .lit (.int .u8 39), .lit (.int .u8 33), .lit (.int .u8 30), .lit (.int .u8 24), .lit (.int .u8 18), .lit (.int .u8 12), .lit (.int .u8 5), .lit (.int .u8 63), .lit (.int .u8 55), .lit (.int .u8 48), .lit (.int .u8 27), .lit (.int .u8 60), .lit (.int .u8 41), .lit (.int .u8 37), .lit (.int .u8 16), .lit (.int .u8 46), .lit (.int .u8 35), .lit (.int .u8 44), .lit (.int .u8 21), .lit (.int .u8 52), .lit (.int .u8 32), .lit (.int .u8 23), .lit (.int .u8 11), .lit (.int .u8 54), .lit (.int .u8 26), .lit (.int .u8 40), .lit (.int .u8 15), .lit (.int .u8 34), .lit (.int .u8 20), .lit (.int .u8 31), .lit (.int .u8 10), .lit (.int .u8 25), .lit (.int .u8 14), .lit (.int .u8 19), .lit (.int .u8 9), .lit (.int .u8 13), .lit (.int .u8 8), .lit (.int .u8 7), .lit (.int .u8 6)]
def laid_internal_strconv_uint64pow10 {H : Type} : DataW H := .agg [.lit (.int .u64 1), .lit (.int .u64 10), .lit (.int .u64 100), .lit (.int .u64 1000), .lit (.int .u64 10000), .lit (.int .u64 100000), .lit (.int .u64 1000000), .lit (.int .u64 10000000), .lit (.int .u64 100000000), .lit (.int .u64 1000000000), .lit (.int .u64 10000000000), .lit (.int .u64 100000000000), .lit (.int .u64 1000000000000), .lit (.int .u64 10000000000000), .lit (.int .u64 100000000000000), .lit (.int .u64 1000000000000000), .lit (.int .u64 10000000000000000), .lit (.int .u64 100000000000000000), .lit (.int .u64 1000000000000000000), .lit (.int .u64 10000000000000000000)]

/-- 'laws.FnExactFormatCents': WHATEVER THE INPUT: true; the input reads as it did. -/
def fnExactFormatCentsSpec : ChangeSpec := { name := "fnExactFormatCents", fn := fun _ => fun
  | [d] => { results := [.lit (.bool true)], args := [d] }
  | _ => none }
def fnExactFormatCentsRow : OpenClaim := { program := "ytaajilepbclmfaadoor", sum := "f35f2aee5f74a555d29f0064390fb94b92b1e7fa2aeddbcc7ab3d04cb6e32b1b", func := "loop.example/g03007/laws.FnExactFormatCents", spec := "fnExactFormatCents", named := ["internal/strconv.uint64pow10", "math/bits.deBruijn32tab", "math/bits.deBruijn64tab"], apart := false, laid := [("math/bits.deBruijn32tab", laid_math_bits_deBruijn32tab), ("math/bits.deBruijn64tab", laid_math_bits_deBruijn64tab), ("internal/strconv.uint64pow10", laid_internal_strconv_uint64pow10)] }
def FnExactFormatCentsSaid : Prop := fnExactFormatCentsRow.holds Tryd.pinned (OpenSpec.ofChange fnExactFormatCentsSpec)

/-- ITS FALSE NEIGHBOUR: 'it returns false'. Refute it at one input. -/
def fnExactFormatCentsWrong : ChangeSpec := { name := "fnExactFormatCents", fn := fun _ => fun
  | [d] => { results := [.lit (.bool false)], args := [d] }
  | _ => none }
def FnExactFormatCentsWrongFalsely : Prop := fnExactFormatCentsRow.holds Tryd.pinned (OpenSpec.ofChange fnExactFormatCentsWrong)

/-- 'laws.FnExactFormatNumbers': WHATEVER THE INPUT: true; the input reads as it did. -/
def fnExactFormatNumbersSpec : ChangeSpec := { name := "fnExactFormatNumbers", fn := fun _ => fun
  | [d] => { results := [.lit (.bool true)], args := [d] }
  | _ => none }
def fnExactFormatNumbersRow : OpenClaim := { program := "ytaajilepbclmfaadoor", sum := "f35f2aee5f74a555d29f0064390fb94b92b1e7fa2aeddbcc7ab3d04cb6e32b1b", func := "loop.example/g03007/laws.FnExactFormatNumbers", spec := "fnExactFormatNumbers", inPlace := ["internal/abi.NoEscape", "internal/bytealg.MakeNoZero"], named := ["internal/strconv.uint64pow10", "math/bits.deBruijn32tab", "math/bits.deBruijn64tab"], apart := false, laid := [("math/bits.deBruijn32tab", laid_math_bits_deBruijn32tab), ("math/bits.deBruijn64tab", laid_math_bits_deBruijn64tab), ("internal/strconv.uint64pow10", laid_internal_strconv_uint64pow10)] }
def FnExactFormatNumbersSaid : Prop := fnExactFormatNumbersRow.holds Tryd.pinned (OpenSpec.ofChange fnExactFormatNumbersSpec)

/-- ITS FALSE NEIGHBOUR: 'it returns false'. Refute it at one input. -/
def fnExactFormatNumbersWrong : ChangeSpec := { name := "fnExactFormatNumbers", fn := fun _ => fun
  | [d] => { results := [.lit (.bool false)], args := [d] }
  | _ => none }
def FnExactFormatNumbersWrongFalsely : Prop := fnExactFormatNumbersRow.holds Tryd.pinned (OpenSpec.ofChange fnExactFormatNumbersWrong)

/-- 'laws.FnExactFormatHits': WHATEVER THE INPUT: true; the input reads as it did. -/
def fnExactFormatHitsSpec : ChangeSpec := { name := "fnExactFormatHits", fn := fun _ => fun
  | [d] => { results := [.lit (.bool true)], args := [d] }
  | _ => none }
def fnExactFormatHitsRow : OpenClaim := { program := "ytaajilepbclmfaadoor", sum := "f35f2aee5f74a555d29f0064390fb94b92b1e7fa2aeddbcc7ab3d04cb6e32b1b", func := "loop.example/g03007/laws.FnExactFormatHits", spec := "fnExactFormatHits", inPlace := ["internal/abi.NoEscape", "internal/bytealg.MakeNoZero"], named := ["internal/strconv.uint64pow10", "math/bits.deBruijn32tab", "math/bits.deBruijn64tab"], apart := false, laid := [("math/bits.deBruijn32tab", laid_math_bits_deBruijn32tab), ("math/bits.deBruijn64tab", laid_math_bits_deBruijn64tab), ("internal/strconv.uint64pow10", laid_internal_strconv_uint64pow10)] }
def FnExactFormatHitsSaid : Prop := fnExactFormatHitsRow.holds Tryd.pinned (OpenSpec.ofChange fnExactFormatHitsSpec)

/-- ITS FALSE NEIGHBOUR: 'it returns false'. Refute it at one input. -/
def fnExactFormatHitsWrong : ChangeSpec := { name := "fnExactFormatHits", fn := fun _ => fun
  | [d] => { results := [.lit (.bool false)], args := [d] }
  | _ => none }
def FnExactFormatHitsWrongFalsely : Prop := fnExactFormatHitsRow.holds Tryd.pinned (OpenSpec.ofChange fnExactFormatHitsWrong)

/-- 'laws.FnExactFormatSlots': WHATEVER THE INPUT: true; the input reads as it did. -/
def fnExactFormatSlotsSpec : ChangeSpec := { name := "fnExactFormatSlots", fn := fun _ => fun
  | [d] => { results := [.lit (.bool true)], args := [d] }
  | _ => none }
def fnExactFormatSlotsRow : OpenClaim := { program := "ytaajilepbclmfaadoor", sum := "f35f2aee5f74a555d29f0064390fb94b92b1e7fa2aeddbcc7ab3d04cb6e32b1b", func := "loop.example/g03007/laws.FnExactFormatSlots", spec := "fnExactFormatSlots", inPlace := ["internal/abi.NoEscape", "internal/bytealg.MakeNoZero"], named := ["internal/strconv.uint64pow10", "math/bits.deBruijn32tab", "math/bits.deBruijn64tab"], apart := false, laid := [("math/bits.deBruijn32tab", laid_math_bits_deBruijn32tab), ("math/bits.deBruijn64tab", laid_math_bits_deBruijn64tab), ("internal/strconv.uint64pow10", laid_internal_strconv_uint64pow10)] }
def FnExactFormatSlotsSaid : Prop := fnExactFormatSlotsRow.holds Tryd.pinned (OpenSpec.ofChange fnExactFormatSlotsSpec)

/-- ITS FALSE NEIGHBOUR: 'it returns false'. Refute it at one input. -/
def fnExactFormatSlotsWrong : ChangeSpec := { name := "fnExactFormatSlots", fn := fun _ => fun
  | [d] => { results := [.lit (.bool false)], args := [d] }
  | _ => none }
def FnExactFormatSlotsWrongFalsely : Prop := fnExactFormatSlotsRow.holds Tryd.pinned (OpenSpec.ofChange fnExactFormatSlotsWrong)

/-- 'laws.FnExactFormatClaims': WHATEVER THE INPUT: true; the input reads as it did. -/
def fnExactFormatClaimsSpec : ChangeSpec := { name := "fnExactFormatClaims", fn := fun _ => fun
  | [d] => { results := [.lit (.bool true)], args := [d] }
  | _ => none }
def fnExactFormatClaimsRow : OpenClaim := { program := "ytaajilepbclmfaadoor", sum := "f35f2aee5f74a555d29f0064390fb94b92b1e7fa2aeddbcc7ab3d04cb6e32b1b", func := "loop.example/g03007/laws.FnExactFormatClaims", spec := "fnExactFormatClaims", inPlace := ["internal/abi.NoEscape", "internal/bytealg.MakeNoZero"], named := ["internal/strconv.uint64pow10", "math/bits.deBruijn32tab", "math/bits.deBruijn64tab"], apart := false, laid := [("math/bits.deBruijn32tab", laid_math_bits_deBruijn32tab), ("math/bits.deBruijn64tab", laid_math_bits_deBruijn64tab), ("internal/strconv.uint64pow10", laid_internal_strconv_uint64pow10)] }
def FnExactFormatClaimsSaid : Prop := fnExactFormatClaimsRow.holds Tryd.pinned (OpenSpec.ofChange fnExactFormatClaimsSpec)

/-- ITS FALSE NEIGHBOUR: 'it returns false'. Refute it at one input. -/
def fnExactFormatClaimsWrong : ChangeSpec := { name := "fnExactFormatClaims", fn := fun _ => fun
  | [d] => { results := [.lit (.bool false)], args := [d] }
  | _ => none }
def FnExactFormatClaimsWrongFalsely : Prop := fnExactFormatClaimsRow.holds Tryd.pinned (OpenSpec.ofChange fnExactFormatClaimsWrong)

/-- 'laws.FnExactStoryOf': WHATEVER THE INPUT: true; the input reads as it did. -/
def fnExactStoryOfSpec : ChangeSpec := { name := "fnExactStoryOf", fn := fun _ => fun
  | [d1, d2] => { results := [.lit (.bool true)], args := [d1, d2] }
  | _ => none }
def fnExactStoryOfRow : OpenClaim := { program := "ytaajilepbclmfaadoor", sum := "f35f2aee5f74a555d29f0064390fb94b92b1e7fa2aeddbcc7ab3d04cb6e32b1b", func := "loop.example/g03007/laws.FnExactStoryOf", spec := "fnExactStoryOf", inPlace := ["internal/abi.NoEscape", "internal/bytealg.MakeNoZero"], named := ["internal/strconv.uint64pow10", "math/bits.deBruijn32tab", "math/bits.deBruijn64tab"], apart := false, laid := [("math/bits.deBruijn32tab", laid_math_bits_deBruijn32tab), ("math/bits.deBruijn64tab", laid_math_bits_deBruijn64tab), ("internal/strconv.uint64pow10", laid_internal_strconv_uint64pow10)] }
def FnExactStoryOfSaid : Prop := fnExactStoryOfRow.holds Tryd.pinned (OpenSpec.ofChange fnExactStoryOfSpec)

/-- ITS FALSE NEIGHBOUR: 'it returns false'. Refute it at one input. -/
def fnExactStoryOfWrong : ChangeSpec := { name := "fnExactStoryOf", fn := fun _ => fun
  | [d1, d2] => { results := [.lit (.bool false)], args := [d1, d2] }
  | _ => none }
def FnExactStoryOfWrongFalsely : Prop := fnExactStoryOfRow.holds Tryd.pinned (OpenSpec.ofChange fnExactStoryOfWrong)

/-- 'laws.FnExactFormatHouse': WHATEVER THE INPUT: true; the input reads as it did. -/
def fnExactFormatHouseSpec : ChangeSpec := { name := "fnExactFormatHouse", fn := fun _ => fun
  | [d] => { results := [.lit (.bool true)], args := [d] }
  | _ => none }
def fnExactFormatHouseRow : OpenClaim := { program := "ytaajilepbclmfaadoor", sum := "f35f2aee5f74a555d29f0064390fb94b92b1e7fa2aeddbcc7ab3d04cb6e32b1b", func := "loop.example/g03007/laws.FnExactFormatHouse", spec := "fnExactFormatHouse", inPlace := ["internal/abi.NoEscape", "internal/bytealg.MakeNoZero"], named := ["internal/strconv.uint64pow10", "math/bits.deBruijn32tab", "math/bits.deBruijn64tab"], apart := false, laid := [("math/bits.deBruijn32tab", laid_math_bits_deBruijn32tab), ("math/bits.deBruijn64tab", laid_math_bits_deBruijn64tab), ("internal/strconv.uint64pow10", laid_internal_strconv_uint64pow10)] }
def FnExactFormatHouseSaid : Prop := fnExactFormatHouseRow.holds Tryd.pinned (OpenSpec.ofChange fnExactFormatHouseSpec)

/-- ITS FALSE NEIGHBOUR: 'it returns false'. Refute it at one input. -/
def fnExactFormatHouseWrong : ChangeSpec := { name := "fnExactFormatHouse", fn := fun _ => fun
  | [d] => { results := [.lit (.bool false)], args := [d] }
  | _ => none }
def FnExactFormatHouseWrongFalsely : Prop := fnExactFormatHouseRow.holds Tryd.pinned (OpenSpec.ofChange fnExactFormatHouseWrong)

/- THE SECOND FORM. 'bulk': how many values and letters a reading holds, each counted each time it is reached (what is shared counts as often as it is met; a slice's spare places count too). A statement '..UptoSaid' is the law's where the arguments, and the package variables that the reading takes, are together of bulk at most 1048576: NARROWER than '..Said'. Prove '..Said' where nothing that the law and all that it calls make is longer than what came in: it says more and counts as full. Else prove '..UptoSaid'. A law counts once. -/
mutual
def uptoBulk {H : Type} : DataW H → Nat
  | .lit (.string bytes) => bytes.length + 1
  | .lit _ => 1
  | .nil => 1
  | .ptr d => uptoBulk d + 1
  | .slice elems spare => uptoBulkAll elems + uptoBulkAll spare + 1
  | .agg parts => uptoBulkAll parts + 1
  | .iface _ d => uptoBulk d + 1
  | .map entries => uptoBulkEntries entries + 1
  | .held _ => 1
def uptoBulkAll {H : Type} : List (DataW H) → Nat
  | [] => 0
  | d :: r => uptoBulk d + uptoBulkAll r
def uptoBulkEntries {H : Type} : List (Lit × DataW H) → Nat
  | [] => 0
  | x :: r => uptoBulkEntry x + uptoBulkEntries r
def uptoBulkEntry {H : Type} : Lit × DataW H → Nat
  | (.string bytes, d) => bytes.length + uptoBulk d + 1
  | (_, d) => uptoBulk d + 1
 end
def uptoSmall : (H : Type) → List (DataW H) → Bool := fun _ ds => decide (uptoBulkAll ds ≤ 1048576)
def OpenSpec.upto (s : _root_.Go.ChangeSpec) : _root_.Go.OpenSpec := { _root_.Go.OpenSpec.ofChange s with cond := some uptoSmall }

/-- 'laws.FnExactFormatCents', WHERE WHAT IT READS IS OF BULK AT MOST 1048576: true; the input reads as it did. -/
def fnExactFormatCentsUptoRow : OpenClaim := { program := "ytaajilepbclmfaadoor", sum := "f35f2aee5f74a555d29f0064390fb94b92b1e7fa2aeddbcc7ab3d04cb6e32b1b", func := "loop.example/g03007/laws.FnExactFormatCents", spec := "fnExactFormatCents", named := ["internal/strconv.uint64pow10", "math/bits.deBruijn32tab", "math/bits.deBruijn64tab"], apart := false, laid := [("math/bits.deBruijn32tab", laid_math_bits_deBruijn32tab), ("math/bits.deBruijn64tab", laid_math_bits_deBruijn64tab), ("internal/strconv.uint64pow10", laid_internal_strconv_uint64pow10)], narrowed := true }
def FnExactFormatCentsUptoSaid : Prop := fnExactFormatCentsUptoRow.holds Tryd.pinned (OpenSpec.upto fnExactFormatCentsSpec)

/-- 'laws.FnExactFormatNumbers', WHERE WHAT IT READS IS OF BULK AT MOST 1048576: true; the input reads as it did. -/
def fnExactFormatNumbersUptoRow : OpenClaim := { program := "ytaajilepbclmfaadoor", sum := "f35f2aee5f74a555d29f0064390fb94b92b1e7fa2aeddbcc7ab3d04cb6e32b1b", func := "loop.example/g03007/laws.FnExactFormatNumbers", spec := "fnExactFormatNumbers", inPlace := ["internal/abi.NoEscape", "internal/bytealg.MakeNoZero"], named := ["internal/strconv.uint64pow10", "math/bits.deBruijn32tab", "math/bits.deBruijn64tab"], apart := false, laid := [("math/bits.deBruijn32tab", laid_math_bits_deBruijn32tab), ("math/bits.deBruijn64tab", laid_math_bits_deBruijn64tab), ("internal/strconv.uint64pow10", laid_internal_strconv_uint64pow10)], narrowed := true }
def FnExactFormatNumbersUptoSaid : Prop := fnExactFormatNumbersUptoRow.holds Tryd.pinned (OpenSpec.upto fnExactFormatNumbersSpec)

/-- 'laws.FnExactFormatHits', WHERE WHAT IT READS IS OF BULK AT MOST 1048576: true; the input reads as it did. -/
def fnExactFormatHitsUptoRow : OpenClaim := { program := "ytaajilepbclmfaadoor", sum := "f35f2aee5f74a555d29f0064390fb94b92b1e7fa2aeddbcc7ab3d04cb6e32b1b", func := "loop.example/g03007/laws.FnExactFormatHits", spec := "fnExactFormatHits", inPlace := ["internal/abi.NoEscape", "internal/bytealg.MakeNoZero"], named := ["internal/strconv.uint64pow10", "math/bits.deBruijn32tab", "math/bits.deBruijn64tab"], apart := false, laid := [("math/bits.deBruijn32tab", laid_math_bits_deBruijn32tab), ("math/bits.deBruijn64tab", laid_math_bits_deBruijn64tab), ("internal/strconv.uint64pow10", laid_internal_strconv_uint64pow10)], narrowed := true }
def FnExactFormatHitsUptoSaid : Prop := fnExactFormatHitsUptoRow.holds Tryd.pinned (OpenSpec.upto fnExactFormatHitsSpec)

/-- 'laws.FnExactFormatSlots', WHERE WHAT IT READS IS OF BULK AT MOST 1048576: true; the input reads as it did. -/
def fnExactFormatSlotsUptoRow : OpenClaim := { program := "ytaajilepbclmfaadoor", sum := "f35f2aee5f74a555d29f0064390fb94b92b1e7fa2aeddbcc7ab3d04cb6e32b1b", func := "loop.example/g03007/laws.FnExactFormatSlots", spec := "fnExactFormatSlots", inPlace := ["internal/abi.NoEscape", "internal/bytealg.MakeNoZero"], named := ["internal/strconv.uint64pow10", "math/bits.deBruijn32tab", "math/bits.deBruijn64tab"], apart := false, laid := [("math/bits.deBruijn32tab", laid_math_bits_deBruijn32tab), ("math/bits.deBruijn64tab", laid_math_bits_deBruijn64tab), ("internal/strconv.uint64pow10", laid_internal_strconv_uint64pow10)], narrowed := true }
def FnExactFormatSlotsUptoSaid : Prop := fnExactFormatSlotsUptoRow.holds Tryd.pinned (OpenSpec.upto fnExactFormatSlotsSpec)

/-- 'laws.FnExactFormatClaims', WHERE WHAT IT READS IS OF BULK AT MOST 1048576: true; the input reads as it did. -/
def fnExactFormatClaimsUptoRow : OpenClaim := { program := "ytaajilepbclmfaadoor", sum := "f35f2aee5f74a555d29f0064390fb94b92b1e7fa2aeddbcc7ab3d04cb6e32b1b", func := "loop.example/g03007/laws.FnExactFormatClaims", spec := "fnExactFormatClaims", inPlace := ["internal/abi.NoEscape", "internal/bytealg.MakeNoZero"], named := ["internal/strconv.uint64pow10", "math/bits.deBruijn32tab", "math/bits.deBruijn64tab"], apart := false, laid := [("math/bits.deBruijn32tab", laid_math_bits_deBruijn32tab), ("math/bits.deBruijn64tab", laid_math_bits_deBruijn64tab), ("internal/strconv.uint64pow10", laid_internal_strconv_uint64pow10)], narrowed := true }
def FnExactFormatClaimsUptoSaid : Prop := fnExactFormatClaimsUptoRow.holds Tryd.pinned (OpenSpec.upto fnExactFormatClaimsSpec)

/-- 'laws.FnExactStoryOf', WHERE WHAT IT READS IS OF BULK AT MOST 1048576: true; the input reads as it did. -/
def fnExactStoryOfUptoRow : OpenClaim := { program := "ytaajilepbclmfaadoor", sum := "f35f2aee5f74a555d29f0064390fb94b92b1e7fa2aeddbcc7ab3d04cb6e32b1b", func := "loop.example/g03007/laws.FnExactStoryOf", spec := "fnExactStoryOf", inPlace := ["internal/abi.NoEscape", "internal/bytealg.MakeNoZero"], named := ["internal/strconv.uint64pow10", "math/bits.deBruijn32tab", "math/bits.deBruijn64tab"], apart := false, laid := [("math/bits.deBruijn32tab", laid_math_bits_deBruijn32tab), ("math/bits.deBruijn64tab", laid_math_bits_deBruijn64tab), ("internal/strconv.uint64pow10", laid_internal_strconv_uint64pow10)], narrowed := true }
def FnExactStoryOfUptoSaid : Prop := fnExactStoryOfUptoRow.holds Tryd.pinned (OpenSpec.upto fnExactStoryOfSpec)

/-- 'laws.FnExactFormatHouse', WHERE WHAT IT READS IS OF BULK AT MOST 1048576: true; the input reads as it did. -/
def fnExactFormatHouseUptoRow : OpenClaim := { program := "ytaajilepbclmfaadoor", sum := "f35f2aee5f74a555d29f0064390fb94b92b1e7fa2aeddbcc7ab3d04cb6e32b1b", func := "loop.example/g03007/laws.FnExactFormatHouse", spec := "fnExactFormatHouse", inPlace := ["internal/abi.NoEscape", "internal/bytealg.MakeNoZero"], named := ["internal/strconv.uint64pow10", "math/bits.deBruijn32tab", "math/bits.deBruijn64tab"], apart := false, laid := [("math/bits.deBruijn32tab", laid_math_bits_deBruijn32tab), ("math/bits.deBruijn64tab", laid_math_bits_deBruijn64tab), ("internal/strconv.uint64pow10", laid_internal_strconv_uint64pow10)], narrowed := true }
def FnExactFormatHouseUptoSaid : Prop := fnExactFormatHouseUptoRow.holds Tryd.pinned (OpenSpec.upto fnExactFormatHouseSpec)

end Rows
end Go.Proofs.YtaajilepbclmfaaDoor
