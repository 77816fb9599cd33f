/-
  DERIVED. GIVEN WITH THE SEED: THE CARDS: each row of YtaajilepbclmfaaDoorRows.lean that lists a variable, with what it lists TIED to the program's text (the seventh form; the later family's looks); each row that meets fmt, with fmt's text TOLD by the authors' own Lean function (tested against real Go, not proved from fmt's source: count such statements apart). THE CARD IS WHAT COUNTS. Prove the row's statement (the work); the ties are given (YtaajilepbclmfaaDoorTie.lean); close each card by the builder's one call (the guide's Derived/Test/ToyasCard.lean, 'card_holds'). Laid BY PROGRAM, IN A SANDBOX (cutbox-door.mjs). By AI agents, Wed Nov 11 2026. No macro, syntax, notation, axiom, sorry.
-/
import Derived.Test.YtaajilepbclmfaaDoorRows
import GoSem.ClaimSeven
namespace Go.Proofs.YtaajilepbclmfaaDoor
namespace Rows

/-- THE TIED CARD OF 'laws.FnExactFormatCents'. -/
def fnExactFormatCentsCard : Claim7 := { stood := { row := fnExactFormatCentsRow, standIns := [], harness := (true, "a2bcd981e3a8ab0d796de982fd57142887fd80a9acba267be48c0d5c13c9d4bf"), looks := false }, kinds := [], alts := [], laidByText := true, laidKinds := [.data, .data, .data], laidTests := true, laidLooks := .later }
def FnExactFormatCentsCardSaid : Prop := Claim7.holds Tryd.pinned (.plain (OpenSpec.ofChange fnExactFormatCentsSpec)) fnExactFormatCentsCard

/-- THE TIED CARD OF 'laws.FnExactFormatNumbers'. -/
def fnExactFormatNumbersCard : Claim7 := { stood := { row := fnExactFormatNumbersRow, standIns := [], harness := (true, "a2bcd981e3a8ab0d796de982fd57142887fd80a9acba267be48c0d5c13c9d4bf"), looks := false }, kinds := [], alts := [], laidByText := true, laidKinds := [.data, .data, .data], laidTests := true, laidLooks := .later }
def FnExactFormatNumbersCardSaid : Prop := Claim7.holds Tryd.pinned (.plain (OpenSpec.ofChange fnExactFormatNumbersSpec)) fnExactFormatNumbersCard

/-- THE TIED CARD OF 'laws.FnExactFormatHits'. -/
def fnExactFormatHitsCard : Claim7 := { stood := { row := fnExactFormatHitsRow, standIns := [], harness := (true, "a2bcd981e3a8ab0d796de982fd57142887fd80a9acba267be48c0d5c13c9d4bf"), looks := false }, kinds := [], alts := [], laidByText := true, laidKinds := [.data, .data, .data], laidTests := true, laidLooks := .later }
def FnExactFormatHitsCardSaid : Prop := Claim7.holds Tryd.pinned (.plain (OpenSpec.ofChange fnExactFormatHitsSpec)) fnExactFormatHitsCard

/-- THE TIED CARD OF 'laws.FnExactFormatSlots'. -/
def fnExactFormatSlotsCard : Claim7 := { stood := { row := fnExactFormatSlotsRow, standIns := [], harness := (true, "a2bcd981e3a8ab0d796de982fd57142887fd80a9acba267be48c0d5c13c9d4bf"), looks := false }, kinds := [], alts := [], laidByText := true, laidKinds := [.data, .data, .data], laidTests := true, laidLooks := .later }
def FnExactFormatSlotsCardSaid : Prop := Claim7.holds Tryd.pinned (.plain (OpenSpec.ofChange fnExactFormatSlotsSpec)) fnExactFormatSlotsCard

/-- THE TIED CARD OF 'laws.FnExactFormatClaims'. -/
def fnExactFormatClaimsCard : Claim7 := { stood := { row := fnExactFormatClaimsRow, standIns := [], harness := (true, "a2bcd981e3a8ab0d796de982fd57142887fd80a9acba267be48c0d5c13c9d4bf"), looks := false }, kinds := [], alts := [], laidByText := true, laidKinds := [.data, .data, .data], laidTests := true, laidLooks := .later }
def FnExactFormatClaimsCardSaid : Prop := Claim7.holds Tryd.pinned (.plain (OpenSpec.ofChange fnExactFormatClaimsSpec)) fnExactFormatClaimsCard

/-- THE TIED CARD OF 'laws.FnExactStoryOf'. -/
def fnExactStoryOfCard : Claim7 := { stood := { row := fnExactStoryOfRow, standIns := [], harness := (true, "a2bcd981e3a8ab0d796de982fd57142887fd80a9acba267be48c0d5c13c9d4bf"), looks := false }, kinds := [], alts := [], laidByText := true, laidKinds := [.data, .data, .data], laidTests := true, laidLooks := .later }
def FnExactStoryOfCardSaid : Prop := Claim7.holds Tryd.pinned (.plain (OpenSpec.ofChange fnExactStoryOfSpec)) fnExactStoryOfCard

/-- THE TIED CARD OF 'laws.FnExactFormatHouse'. -/
def fnExactFormatHouseCard : Claim7 := { stood := { row := fnExactFormatHouseRow, standIns := [], harness := (true, "a2bcd981e3a8ab0d796de982fd57142887fd80a9acba267be48c0d5c13c9d4bf"), looks := false }, kinds := [], alts := [], laidByText := true, laidKinds := [.data, .data, .data], laidTests := true, laidLooks := .later }
def FnExactFormatHouseCardSaid : Prop := Claim7.holds Tryd.pinned (.plain (OpenSpec.ofChange fnExactFormatHouseSpec)) fnExactFormatHouseCard

/-- THE SECOND FORM's CARD OF 'laws.FnExactFormatCents'. -/
def fnExactFormatCentsUptoCard : Claim7 := { stood := { row := fnExactFormatCentsUptoRow, standIns := [], harness := (true, "a2bcd981e3a8ab0d796de982fd57142887fd80a9acba267be48c0d5c13c9d4bf"), looks := false }, kinds := [], alts := [], laidByText := true, laidKinds := [.data, .data, .data], laidTests := true, laidLooks := .later }
def FnExactFormatCentsUptoCardSaid : Prop := Claim7.holds Tryd.pinned (.plain (OpenSpec.upto fnExactFormatCentsSpec)) fnExactFormatCentsUptoCard

/-- THE SECOND FORM's CARD OF 'laws.FnExactFormatNumbers'. -/
def fnExactFormatNumbersUptoCard : Claim7 := { stood := { row := fnExactFormatNumbersUptoRow, standIns := [], harness := (true, "a2bcd981e3a8ab0d796de982fd57142887fd80a9acba267be48c0d5c13c9d4bf"), looks := false }, kinds := [], alts := [], laidByText := true, laidKinds := [.data, .data, .data], laidTests := true, laidLooks := .later }
def FnExactFormatNumbersUptoCardSaid : Prop := Claim7.holds Tryd.pinned (.plain (OpenSpec.upto fnExactFormatNumbersSpec)) fnExactFormatNumbersUptoCard

/-- THE SECOND FORM's CARD OF 'laws.FnExactFormatHits'. -/
def fnExactFormatHitsUptoCard : Claim7 := { stood := { row := fnExactFormatHitsUptoRow, standIns := [], harness := (true, "a2bcd981e3a8ab0d796de982fd57142887fd80a9acba267be48c0d5c13c9d4bf"), looks := false }, kinds := [], alts := [], laidByText := true, laidKinds := [.data, .data, .data], laidTests := true, laidLooks := .later }
def FnExactFormatHitsUptoCardSaid : Prop := Claim7.holds Tryd.pinned (.plain (OpenSpec.upto fnExactFormatHitsSpec)) fnExactFormatHitsUptoCard

/-- THE SECOND FORM's CARD OF 'laws.FnExactFormatSlots'. -/
def fnExactFormatSlotsUptoCard : Claim7 := { stood := { row := fnExactFormatSlotsUptoRow, standIns := [], harness := (true, "a2bcd981e3a8ab0d796de982fd57142887fd80a9acba267be48c0d5c13c9d4bf"), looks := false }, kinds := [], alts := [], laidByText := true, laidKinds := [.data, .data, .data], laidTests := true, laidLooks := .later }
def FnExactFormatSlotsUptoCardSaid : Prop := Claim7.holds Tryd.pinned (.plain (OpenSpec.upto fnExactFormatSlotsSpec)) fnExactFormatSlotsUptoCard

/-- THE SECOND FORM's CARD OF 'laws.FnExactFormatClaims'. -/
def fnExactFormatClaimsUptoCard : Claim7 := { stood := { row := fnExactFormatClaimsUptoRow, standIns := [], harness := (true, "a2bcd981e3a8ab0d796de982fd57142887fd80a9acba267be48c0d5c13c9d4bf"), looks := false }, kinds := [], alts := [], laidByText := true, laidKinds := [.data, .data, .data], laidTests := true, laidLooks := .later }
def FnExactFormatClaimsUptoCardSaid : Prop := Claim7.holds Tryd.pinned (.plain (OpenSpec.upto fnExactFormatClaimsSpec)) fnExactFormatClaimsUptoCard

/-- THE SECOND FORM's CARD OF 'laws.FnExactStoryOf'. -/
def fnExactStoryOfUptoCard : Claim7 := { stood := { row := fnExactStoryOfUptoRow, standIns := [], harness := (true, "a2bcd981e3a8ab0d796de982fd57142887fd80a9acba267be48c0d5c13c9d4bf"), looks := false }, kinds := [], alts := [], laidByText := true, laidKinds := [.data, .data, .data], laidTests := true, laidLooks := .later }
def FnExactStoryOfUptoCardSaid : Prop := Claim7.holds Tryd.pinned (.plain (OpenSpec.upto fnExactStoryOfSpec)) fnExactStoryOfUptoCard

/-- THE SECOND FORM's CARD OF 'laws.FnExactFormatHouse'. -/
def fnExactFormatHouseUptoCard : Claim7 := { stood := { row := fnExactFormatHouseUptoRow, standIns := [], harness := (true, "a2bcd981e3a8ab0d796de982fd57142887fd80a9acba267be48c0d5c13c9d4bf"), looks := false }, kinds := [], alts := [], laidByText := true, laidKinds := [.data, .data, .data], laidTests := true, laidLooks := .later }
def FnExactFormatHouseUptoCardSaid : Prop := Claim7.holds Tryd.pinned (.plain (OpenSpec.upto fnExactFormatHouseSpec)) fnExactFormatHouseUptoCard
end Rows
end Go.Proofs.YtaajilepbclmfaaDoor
