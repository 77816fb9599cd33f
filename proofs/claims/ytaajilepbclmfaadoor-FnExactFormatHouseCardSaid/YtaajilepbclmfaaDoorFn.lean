/- The functions, typed. Definitions. No condition. -/
import Derived.Lib.Join
import Derived.Lib.ItoaNum
import Derived.Test.YtaajilepbclmfaaDoorPw
namespace Go.Proofs.YtaajilepbclmfaaDoor
open Go
set_option linter.unusedVariables false
set_option linter.unusedSimpArgs false
set_option linter.defProp false
set_option maxRecDepth 100000
structure Hit where
  House : Int
  Thing : Int
instance : Inhabited Hit := ⟨⟨0, 0⟩⟩
structure Slot where
  Id : Int
  Size : Int
  Thing : Int
instance : Inhabited Slot := ⟨⟨0, 0, 0⟩⟩
structure Claim where
  Id : Int
  Who : Int
  Thing : Int
  At : Int
  State : Int
instance : Inhabited Claim := ⟨⟨0, 0, 0, 0, 0⟩⟩
structure Hand where
  Thing : Int
  Holder : Int
  Who : Int
  At : Int
  Seal : Int
instance : Inhabited Hand := ⟨⟨0, 0, 0, 0, 0⟩⟩
structure Thing where
  Id : Int
  Kind : Int
  Colour : Int
  Size : Int
  Worth : Int
instance : Inhabited Thing := ⟨⟨0, 0, 0, 0, 0⟩⟩
structure Find where
  Thing : Thing
  Place : Int
  At : Int
  Finder : Int
instance : Inhabited Find := ⟨⟨default, 0, 0, 0⟩⟩
structure Mark where
  Question : Int
  Answer : Int
instance : Inhabited Mark := ⟨⟨0, 0⟩⟩
structure Secret where
  Thing : Int
  Marks : List Mark
  Salt : Int
instance : Inhabited Secret := ⟨⟨0, [], 0⟩⟩
structure Trial where
  Claim : Int
  Asked : Int
  Right : Int
  Wrong : Int
instance : Inhabited Trial := ⟨⟨0, 0, 0, 0⟩⟩
structure Entry where
  From : Int
  To : Int
  Cents : Int
  At : Int
instance : Inhabited Entry := ⟨⟨0, 0, 0, 0⟩⟩
structure House where
  No : Int
  Finds : List Find
  Secrets : List Secret
  Slots : List Slot
  Claims : List Claim
  Trials : List Trial
  Chain : List Hand
  Book : List Entry
  Now : Int
instance : Inhabited House := ⟨⟨0, [], [], [], [], [], [], [], 0⟩⟩
def okHit (x : Hit) : Prop := i64 x.House ∧ i64 x.Thing
def okSlot (x : Slot) : Prop := i64 x.Id ∧ i64 x.Size ∧ i64 x.Thing
def okClaim (x : Claim) : Prop := i64 x.Id ∧ i64 x.Who ∧ i64 x.Thing ∧ i64 x.At ∧ i64 x.State
def okHand (x : Hand) : Prop := i64 x.Thing ∧ i64 x.Holder ∧ i64 x.Who ∧ i64 x.At ∧ i64 x.Seal
def okThing (x : Thing) : Prop := i64 x.Id ∧ i64 x.Kind ∧ i64 x.Colour ∧ i64 x.Size ∧ i64 x.Worth
def okFind (x : Find) : Prop := okThing x.Thing ∧ i64 x.Place ∧ i64 x.At ∧ i64 x.Finder
def okMark (x : Mark) : Prop := i64 x.Question ∧ i64 x.Answer
def okSecret (x : Secret) : Prop := i64 x.Thing ∧ (okL okMark) x.Marks ∧ i64 x.Salt
def okTrial (x : Trial) : Prop := i64 x.Claim ∧ i64 x.Asked ∧ i64 x.Right ∧ i64 x.Wrong
def okEntry (x : Entry) : Prop := i64 x.From ∧ i64 x.To ∧ i64 x.Cents ∧ i64 x.At
def okHouse (x : House) : Prop := i64 x.No ∧ (okL okFind) x.Finds ∧ (okL okSecret) x.Secrets ∧ (okL okSlot) x.Slots ∧ (okL okClaim) x.Claims ∧ (okL okTrial) x.Trials ∧ (okL okHand) x.Chain ∧ (okL okEntry) x.Book ∧ i64 x.Now
def strings_Join (l : List (List UInt8)) (s : List UInt8) : Option (List UInt8) := nd (decide (l.length ≤ 140737488355328) && decide ((Go.Lib.join l s).length ≤ 140737488355328)) <| some (Go.Lib.join l s)
def strconv_Itoa (x : Int) : Option (List UInt8) := nd (decide (-9223372036854775808 ≤ x) && decide (x ≤ 9223372036854775807)) <| some (Go.Lib.itoa x)
noncomputable def spec_l1In (x : Int) (least : Int) (most : Int) : Option Bool := some ((decide (least ≤ x)) && (decide (x ≤ most)))
noncomputable def spec_FormatInt_l5 (vn : Int) : ((List UInt8) × Int) → Option (((List UInt8) × Int) ⊕ (List UInt8)) := fun (s, x) => bif (!decide (x = 0)) then (bif (decide ((x.tmod 10) < 0)) then nd (sfit [UInt8.ofNat (IntKind.u8.wrap (w64 (48 + (w64 (-(x.tmod 10)))))).toNat] s) <| some (.inl (scat [UInt8.ofNat (IntKind.u8.wrap (w64 (48 + (w64 (-(x.tmod 10)))))).toNat] s, w64 (x.tdiv 10))) else nd (sfit [UInt8.ofNat (IntKind.u8.wrap (w64 (48 + (x.tmod 10)))).toNat] s) <| some (.inl (scat [UInt8.ofNat (IntKind.u8.wrap (w64 (48 + (x.tmod 10)))).toNat] s, w64 (x.tdiv 10)))) else some (.inr s)
noncomputable def spec_FormatInt (vn : Int) : Option (List UInt8) := bif (decide (vn = 0)) then some [48] else (run (spec_FormatInt_l5 vn) ([], vn)).bind fun b => (bif (decide (vn < 0)) then nd (sfit [45] b) <| some (scat [45] b) else some b)
noncomputable def spec_FormatCents (cents : Int) : Option (List UInt8) := (spec_l1In cents (-1000000000) 1000000000).bind fun r => (bif (!r) then some [] else (bif (decide (cents < 0)) then (spec_FormatInt (w64 ((w64 (-cents)).tdiv 100))).bind fun r2 => nd (sfit [45] r2) <| nd (sfit (scat [45] r2) [46]) <| (spec_FormatInt ((w64 ((w64 (-cents)).tdiv 10)).tmod 10)).bind fun r3 => nd (sfit (scat (scat [45] r2) [46]) r3) <| (spec_FormatInt ((w64 (-cents)).tmod 10)).bind fun r4 => nd (sfit (scat (scat (scat [45] r2) [46]) r3) r4) <| some (scat (scat (scat (scat [45] r2) [46]) r3) r4) else (spec_FormatInt (w64 (cents.tdiv 100))).bind fun r5 => nd (sfit [] r5) <| nd (sfit (scat [] r5) [46]) <| (spec_FormatInt ((w64 (cents.tdiv 10)).tmod 10)).bind fun r6 => nd (sfit (scat (scat [] r5) [46]) r6) <| (spec_FormatInt (cents.tmod 10)).bind fun r7 => nd (sfit (scat (scat (scat [] r5) [46]) r6) r7) <| some (scat (scat (scat (scat [] r5) [46]) r6) r7)))
noncomputable def impl_InRange (vn : Int) (low : Int) (high : Int) : Option Bool := some ((decide (low ≤ vn)) && (decide (vn ≤ high)))
noncomputable def impl_FormatInt (vn : Int) : Option (List UInt8) := (strconv_Itoa vn).bind fun r => some r
noncomputable def impl_FormatCents (cents : Int) : Option (List UInt8) := (impl_InRange cents (-1000000000) 1000000000).bind fun r => (bif (!r) then some [] else (bif (decide (cents < 0)) then (impl_FormatInt (w64 ((w64 (-cents)).tdiv 100))).bind fun r2 => nd (sfit [45] r2) <| nd (sfit (scat [45] r2) [46]) <| (impl_FormatInt ((w64 ((w64 (-cents)).tdiv 10)).tmod 10)).bind fun r3 => nd (sfit (scat (scat [45] r2) [46]) r3) <| (impl_FormatInt ((w64 (-cents)).tmod 10)).bind fun r4 => nd (sfit (scat (scat (scat [45] r2) [46]) r3) r4) <| some (scat (scat (scat (scat [45] r2) [46]) r3) r4) else (impl_FormatInt (w64 (cents.tdiv 100))).bind fun r5 => nd (sfit [] r5) <| nd (sfit (scat [] r5) [46]) <| (impl_FormatInt ((w64 (cents.tdiv 10)).tmod 10)).bind fun r6 => nd (sfit (scat (scat [] r5) [46]) r6) <| (impl_FormatInt (cents.tmod 10)).bind fun r7 => nd (sfit (scat (scat (scat [] r5) [46]) r6) r7) <| some (scat (scat (scat (scat [] r5) [46]) r6) r7)))
noncomputable def laws_FnExactFormatCents (aCents : Int) : Option Bool := (spec_FormatCents aCents).bind fun r => (impl_FormatCents aCents).bind fun r2 => (bif (!decide (r2 = r)) then some false else some true)
noncomputable def laws_toIntS_l3 (a : List Int) : ((List Int) × Int) → Option (((List Int) × Int) ⊕ (List Int)) := fun (out, i) => bif (decide (i < ln a)) then nd (inb a i) <| nd (inb out i) <| some (.inl (out.set i.toNat (gt a i), w64 (i + 1))) else some (.inr out)
noncomputable def laws_toIntS (a : List Int) : Option (List Int) := nd (mkB (ln a) 8) <| (run (laws_toIntS_l3 a) (List.replicate (ln a).toNat 0, 0)).bind fun b => some b
noncomputable def spec_l39Join_l3 (l : List (List UInt8)) : ((List UInt8) × Int) → Option (((List UInt8) × Int) ⊕ (List UInt8)) := fun (s, i) => bif (decide (i < ln l)) then (bif (decide (0 < i)) then nd (sfit s [32]) <| nd (inb l i) <| nd (sfit (scat s [32]) (gt l i)) <| some (.inl (scat (scat s [32]) (gt l i), w64 (i + 1))) else nd (inb l i) <| nd (sfit s (gt l i)) <| some (.inl (scat s (gt l i), w64 (i + 1)))) else some (.inr s)
noncomputable def spec_l39Join (l : List (List UInt8)) : Option (List UInt8) := (run (spec_l39Join_l3 l) ([], 0)).bind fun b => (bif (decide (ln l = 0)) then some [45] else some b)
noncomputable def spec_FormatNumbers_l3 (l : List Int) : ((List (List UInt8)) × Int) → Option (((List (List UInt8)) × Int) ⊕ (List (List UInt8))) := fun (out, i) => bif (decide (i < ln l)) then nd (inb l i) <| (spec_FormatInt (gt l i)).bind fun r => nd (rm (out.length + 1) 16) <| some (.inl (out ++ [r], w64 (i + 1))) else some (.inr out)
noncomputable def spec_FormatNumbers (l : List Int) : Option (List UInt8) := (run (spec_FormatNumbers_l3 l) ([], 0)).bind fun b => (spec_l39Join b).bind fun r => some r
noncomputable def impl_joined (l : List (List UInt8)) : Option (List UInt8) := bif (decide (ln l = 0)) then some [45] else (strings_Join l [32]).bind fun r => some r
noncomputable def impl_FormatNumbers_l3 (t7 : List Int) (t8 : Int) : ((List (List UInt8)) × Int) → Option (((List (List UInt8)) × Int) ⊕ (List (List UInt8))) := fun (out, t9) => bif (decide (t9 < t8)) then nd (inb t7 t9) <| (impl_FormatInt (gt t7 t9)).bind fun r => nd (rm (out.length + 1) 16) <| some (.inl (out ++ [r], w64 (t9 + 1))) else some (.inr out)
noncomputable def impl_FormatNumbers (l : List Int) : Option (List UInt8) := (run (impl_FormatNumbers_l3 l (ln l)) ([], 0)).bind fun b => (impl_joined b).bind fun r => some r
noncomputable def laws_eqIntS_l4 (a : List Int) (b : List Int) : Int → Option (Int ⊕ (Fl Bool Unit)) := fun i => bif (decide (i < ln a)) then nd (inb a i) <| nd (inb b i) <| (bif (!decide (gt a i = gt b i)) then some (.inr (.ret false)) else some (.inl (w64 (i + 1)))) else some (.inr (.brk ()))
noncomputable def laws_eqIntS (a : List Int) (b : List Int) : Option Bool := bif (!decide (ln a = ln b)) then some false else (run (laws_eqIntS_l4 a b) 0).bind (evO (fun r => some r) fun b2 => some true)
noncomputable def laws_FnExactFormatNumbers (aL : List Int) : Option Bool := bif (decide (1048576 < ln aL)) then some true else (laws_toIntS aL).bind fun r => (spec_FormatNumbers r).bind fun r2 => (laws_toIntS aL).bind fun r3 => (impl_FormatNumbers r3).bind fun r4 => (bif (!decide (r4 = r2)) then some false else (laws_toIntS aL).bind fun r5 => (laws_eqIntS r3 r5).bind fun r6 => (bif (!r6) then some false else some true))
noncomputable def laws_szHitS (a : List Hit) (left : Int) : Option Int := bif (decide (w64 (left - (ln a)) < 0)) then some (-1) else some (w64 (left - (ln a)))
noncomputable def laws_toHit (a : Hit) : Option Hit := some a
noncomputable def laws_toHitS_l3 (a : List Hit) : ((List Hit) × Int) → Option (((List Hit) × Int) ⊕ (List Hit)) := fun (out, i) => bif (decide (i < ln a)) then nd (inb a i) <| (laws_toHit (gt a i)).bind fun r => nd (inb out i) <| some (.inl (out.set i.toNat r, w64 (i + 1))) else some (.inr out)
noncomputable def laws_toHitS (a : List Hit) : Option (List Hit) := nd (mkB (ln a) 16) <| (run (laws_toHitS_l3 a) (List.replicate (ln a).toNat (⟨0, 0⟩ : Hit), 0)).bind fun b => some b
noncomputable def spec_FormatHits_l3 (l : List Hit) : ((List (List UInt8)) × Int) → Option (((List (List UInt8)) × Int) ⊕ (List (List UInt8))) := fun (out, i) => bif (decide (i < ln l)) then nd (inb l i) <| (spec_FormatInt (gt l i).House).bind fun r => nd (sfit r [47]) <| (spec_FormatInt (gt l i).Thing).bind fun r2 => nd (sfit (scat r [47]) r2) <| nd (rm (out.length + 1) 16) <| some (.inl (out ++ [scat (scat r [47]) r2], w64 (i + 1))) else some (.inr out)
noncomputable def spec_FormatHits (l : List Hit) : Option (List UInt8) := (run (spec_FormatHits_l3 l) ([], 0)).bind fun b => (spec_l39Join b).bind fun r => some r
noncomputable def impl_FormatHits_l3 (t7 : List Hit) (t8 : Int) : ((List (List UInt8)) × Int) → Option (((List (List UInt8)) × Int) ⊕ (List (List UInt8))) := fun (out, t9) => bif (decide (t9 < t8)) then nd (inb t7 t9) <| (impl_FormatInt (gt t7 t9).House).bind fun r => nd (sfit r [47]) <| (impl_FormatInt (gt t7 t9).Thing).bind fun r2 => nd (sfit (scat r [47]) r2) <| nd (rm (out.length + 1) 16) <| some (.inl (out ++ [scat (scat r [47]) r2], w64 (t9 + 1))) else some (.inr out)
noncomputable def impl_FormatHits (l : List Hit) : Option (List UInt8) := (run (impl_FormatHits_l3 l (ln l)) ([], 0)).bind fun b => (impl_joined b).bind fun r => some r
noncomputable def laws_eqHit (a : Hit) (b : Hit) : Option Bool := bif (!decide (a.House = b.House)) then some false else (bif (!decide (a.Thing = b.Thing)) then some false else some true)
noncomputable def laws_eqHitS_l4 (a : List Hit) (b : List Hit) : Int → Option (Int ⊕ (Fl Bool Unit)) := fun i => bif (decide (i < ln a)) then nd (inb a i) <| nd (inb b i) <| (laws_eqHit (gt a i) (gt b i)).bind fun r => (bif (!r) then some (.inr (.ret false)) else some (.inl (w64 (i + 1)))) else some (.inr (.brk ()))
noncomputable def laws_eqHitS (a : List Hit) (b : List Hit) : Option Bool := bif (!decide (ln a = ln b)) then some false else (run (laws_eqHitS_l4 a b) 0).bind (evO (fun r => some r) fun b2 => some true)
noncomputable def laws_FnExactFormatHits (aL : List Hit) : Option Bool := (laws_szHitS aL 1048576).bind fun r => (bif (decide (r < 0)) then some true else (laws_toHitS aL).bind fun r2 => (spec_FormatHits r2).bind fun r3 => (laws_toHitS aL).bind fun r4 => (impl_FormatHits r4).bind fun r5 => (bif (!decide (r5 = r3)) then some false else (laws_toHitS aL).bind fun r6 => (laws_eqHitS r4 r6).bind fun r7 => (bif (!r7) then some false else some true)))
noncomputable def laws_szSlotS (a : List Slot) (left : Int) : Option Int := bif (decide (w64 (left - (ln a)) < 0)) then some (-1) else some (w64 (left - (ln a)))
noncomputable def laws_toSlot (a : Slot) : Option Slot := some a
noncomputable def laws_toSlotS_l3 (a : List Slot) : ((List Slot) × Int) → Option (((List Slot) × Int) ⊕ (List Slot)) := fun (out, i) => bif (decide (i < ln a)) then nd (inb a i) <| (laws_toSlot (gt a i)).bind fun r => nd (inb out i) <| some (.inl (out.set i.toNat r, w64 (i + 1))) else some (.inr out)
noncomputable def laws_toSlotS (a : List Slot) : Option (List Slot) := nd (mkB (ln a) 24) <| (run (laws_toSlotS_l3 a) (List.replicate (ln a).toNat (⟨0, 0, 0⟩ : Slot), 0)).bind fun b => some b
noncomputable def spec_FormatSlots_l3 (l : List Slot) : ((List (List UInt8)) × Int) → Option (((List (List UInt8)) × Int) ⊕ (List (List UInt8))) := fun (out, i) => bif (decide (i < ln l)) then nd (inb l i) <| (bif (!decide ((gt l i).Thing = 0)) then (spec_FormatInt (gt l i).Thing).bind fun r => (spec_FormatInt (gt l i).Id).bind fun r2 => nd (sfit r2 [58]) <| nd (sfit (scat r2 [58]) r) <| nd (rm (out.length + 1) 16) <| some (.inl (out ++ [scat (scat r2 [58]) r], w64 (i + 1))) else (spec_FormatInt (gt l i).Id).bind fun r3 => nd (sfit r3 [58]) <| nd (sfit (scat r3 [58]) [46]) <| nd (rm (out.length + 1) 16) <| some (.inl (out ++ [scat (scat r3 [58]) [46]], w64 (i + 1)))) else some (.inr out)
noncomputable def spec_FormatSlots (l : List Slot) : Option (List UInt8) := (run (spec_FormatSlots_l3 l) ([], 0)).bind fun b => (spec_l39Join b).bind fun r => some r
noncomputable def impl_FormatSlots_l3 (t8 : List Slot) (t9 : Int) : ((List (List UInt8)) × Int) → Option (((List (List UInt8)) × Int) ⊕ (List (List UInt8))) := fun (out, t10) => bif (decide (t10 < t9)) then nd (inb t8 t10) <| (bif (!decide ((gt t8 t10).Thing = 0)) then (impl_FormatInt (gt t8 t10).Thing).bind fun r => (impl_FormatInt (gt t8 t10).Id).bind fun r2 => nd (sfit r2 [58]) <| nd (sfit (scat r2 [58]) r) <| nd (rm (out.length + 1) 16) <| some (.inl (out ++ [scat (scat r2 [58]) r], w64 (t10 + 1))) else (impl_FormatInt (gt t8 t10).Id).bind fun r3 => nd (sfit r3 [58]) <| nd (sfit (scat r3 [58]) [46]) <| nd (rm (out.length + 1) 16) <| some (.inl (out ++ [scat (scat r3 [58]) [46]], w64 (t10 + 1)))) else some (.inr out)
noncomputable def impl_FormatSlots (l : List Slot) : Option (List UInt8) := (run (impl_FormatSlots_l3 l (ln l)) ([], 0)).bind fun b => (impl_joined b).bind fun r => some r
noncomputable def laws_eqSlot (a : Slot) (b : Slot) : Option Bool := bif (!decide (a.Id = b.Id)) then some false else (bif (!decide (a.Size = b.Size)) then some false else (bif (!decide (a.Thing = b.Thing)) then some false else some true))
noncomputable def laws_eqSlotS_l4 (a : List Slot) (b : List Slot) : Int → Option (Int ⊕ (Fl Bool Unit)) := fun i => bif (decide (i < ln a)) then nd (inb a i) <| nd (inb b i) <| (laws_eqSlot (gt a i) (gt b i)).bind fun r => (bif (!r) then some (.inr (.ret false)) else some (.inl (w64 (i + 1)))) else some (.inr (.brk ()))
noncomputable def laws_eqSlotS (a : List Slot) (b : List Slot) : Option Bool := bif (!decide (ln a = ln b)) then some false else (run (laws_eqSlotS_l4 a b) 0).bind (evO (fun r => some r) fun b2 => some true)
noncomputable def laws_FnExactFormatSlots (aL : List Slot) : Option Bool := (laws_szSlotS aL 1048576).bind fun r => (bif (decide (r < 0)) then some true else (laws_toSlotS aL).bind fun r2 => (spec_FormatSlots r2).bind fun r3 => (laws_toSlotS aL).bind fun r4 => (impl_FormatSlots r4).bind fun r5 => (bif (!decide (r5 = r3)) then some false else (laws_toSlotS aL).bind fun r6 => (laws_eqSlotS r4 r6).bind fun r7 => (bif (!r7) then some false else some true)))
noncomputable def laws_szClaimS (a : List Claim) (left : Int) : Option Int := bif (decide (w64 (left - (ln a)) < 0)) then some (-1) else some (w64 (left - (ln a)))
noncomputable def laws_toClaim (a : Claim) : Option Claim := some a
noncomputable def laws_toClaimS_l3 (a : List Claim) : ((List Claim) × Int) → Option (((List Claim) × Int) ⊕ (List Claim)) := fun (out, i) => bif (decide (i < ln a)) then nd (inb a i) <| (laws_toClaim (gt a i)).bind fun r => nd (inb out i) <| some (.inl (out.set i.toNat r, w64 (i + 1))) else some (.inr out)
noncomputable def laws_toClaimS (a : List Claim) : Option (List Claim) := nd (mkB (ln a) 40) <| (run (laws_toClaimS_l3 a) (List.replicate (ln a).toNat (⟨0, 0, 0, 0, 0⟩ : Claim), 0)).bind fun b => some b
noncomputable def spec_FormatClaims_l3 (l : List Claim) : ((List (List UInt8)) × Int) → Option (((List (List UInt8)) × Int) ⊕ (List (List UInt8))) := fun (out, i) => bif (decide (i < ln l)) then nd (inb l i) <| (spec_l1In (gt l i).State 0 3).bind fun r => (bif r then nd (slB (gt l i).State (w64 ((gt l i).State + 1)) (ln [111, 112, 102, 115])) <| (spec_FormatInt (gt l i).Id).bind fun r2 => nd (sfit r2 [58]) <| (spec_FormatInt (gt l i).Who).bind fun r3 => nd (sfit (scat r2 [58]) r3) <| nd (sfit (scat (scat r2 [58]) r3) [62]) <| (spec_FormatInt (gt l i).Thing).bind fun r4 => nd (sfit (scat (scat (scat r2 [58]) r3) [62]) r4) <| nd (sfit (scat (scat (scat (scat r2 [58]) r3) [62]) r4) (cut [111, 112, 102, 115] (gt l i).State (w64 ((gt l i).State + 1)))) <| nd (rm (out.length + 1) 16) <| some (.inl (out ++ [scat (scat (scat (scat (scat r2 [58]) r3) [62]) r4) (cut [111, 112, 102, 115] (gt l i).State (w64 ((gt l i).State + 1)))], w64 (i + 1))) else (spec_FormatInt (gt l i).Id).bind fun r5 => nd (sfit r5 [58]) <| (spec_FormatInt (gt l i).Who).bind fun r6 => nd (sfit (scat r5 [58]) r6) <| nd (sfit (scat (scat r5 [58]) r6) [62]) <| (spec_FormatInt (gt l i).Thing).bind fun r7 => nd (sfit (scat (scat (scat r5 [58]) r6) [62]) r7) <| nd (sfit (scat (scat (scat (scat r5 [58]) r6) [62]) r7) [63]) <| nd (rm (out.length + 1) 16) <| some (.inl (out ++ [scat (scat (scat (scat (scat r5 [58]) r6) [62]) r7) [63]], w64 (i + 1)))) else some (.inr out)
noncomputable def spec_FormatClaims (l : List Claim) : Option (List UInt8) := (run (spec_FormatClaims_l3 l) ([], 0)).bind fun b => (spec_l39Join b).bind fun r => some r
noncomputable def impl_FormatClaims_l3 (t8 : List Claim) (t9 : Int) : ((List (List UInt8)) × Int) → Option (((List (List UInt8)) × Int) ⊕ (List (List UInt8))) := fun (out, t10) => bif (decide (t10 < t9)) then nd (inb t8 t10) <| (impl_InRange (gt t8 t10).State 0 3).bind fun r => (bif r then nd (slB (gt t8 t10).State (w64 ((gt t8 t10).State + 1)) (ln [111, 112, 102, 115])) <| (impl_FormatInt (gt t8 t10).Id).bind fun r2 => nd (sfit r2 [58]) <| (impl_FormatInt (gt t8 t10).Who).bind fun r3 => nd (sfit (scat r2 [58]) r3) <| nd (sfit (scat (scat r2 [58]) r3) [62]) <| (impl_FormatInt (gt t8 t10).Thing).bind fun r4 => nd (sfit (scat (scat (scat r2 [58]) r3) [62]) r4) <| nd (sfit (scat (scat (scat (scat r2 [58]) r3) [62]) r4) (cut [111, 112, 102, 115] (gt t8 t10).State (w64 ((gt t8 t10).State + 1)))) <| nd (rm (out.length + 1) 16) <| some (.inl (out ++ [scat (scat (scat (scat (scat r2 [58]) r3) [62]) r4) (cut [111, 112, 102, 115] (gt t8 t10).State (w64 ((gt t8 t10).State + 1)))], w64 (t10 + 1))) else (impl_FormatInt (gt t8 t10).Id).bind fun r5 => nd (sfit r5 [58]) <| (impl_FormatInt (gt t8 t10).Who).bind fun r6 => nd (sfit (scat r5 [58]) r6) <| nd (sfit (scat (scat r5 [58]) r6) [62]) <| (impl_FormatInt (gt t8 t10).Thing).bind fun r7 => nd (sfit (scat (scat (scat r5 [58]) r6) [62]) r7) <| nd (sfit (scat (scat (scat (scat r5 [58]) r6) [62]) r7) [63]) <| nd (rm (out.length + 1) 16) <| some (.inl (out ++ [scat (scat (scat (scat (scat r5 [58]) r6) [62]) r7) [63]], w64 (t10 + 1)))) else some (.inr out)
noncomputable def impl_FormatClaims (l : List Claim) : Option (List UInt8) := (run (impl_FormatClaims_l3 l (ln l)) ([], 0)).bind fun b => (impl_joined b).bind fun r => some r
noncomputable def laws_eqClaim (a : Claim) (b : Claim) : Option Bool := bif (!decide (a.Id = b.Id)) then some false else (bif (!decide (a.Who = b.Who)) then some false else (bif (!decide (a.Thing = b.Thing)) then some false else (bif (!decide (a.At = b.At)) then some false else (bif (!decide (a.State = b.State)) then some false else some true))))
noncomputable def laws_eqClaimS_l4 (a : List Claim) (b : List Claim) : Int → Option (Int ⊕ (Fl Bool Unit)) := fun i => bif (decide (i < ln a)) then nd (inb a i) <| nd (inb b i) <| (laws_eqClaim (gt a i) (gt b i)).bind fun r => (bif (!r) then some (.inr (.ret false)) else some (.inl (w64 (i + 1)))) else some (.inr (.brk ()))
noncomputable def laws_eqClaimS (a : List Claim) (b : List Claim) : Option Bool := bif (!decide (ln a = ln b)) then some false else (run (laws_eqClaimS_l4 a b) 0).bind (evO (fun r => some r) fun b2 => some true)
noncomputable def laws_FnExactFormatClaims (aL : List Claim) : Option Bool := (laws_szClaimS aL 1048576).bind fun r => (bif (decide (r < 0)) then some true else (laws_toClaimS aL).bind fun r2 => (spec_FormatClaims r2).bind fun r3 => (laws_toClaimS aL).bind fun r4 => (impl_FormatClaims r4).bind fun r5 => (bif (!decide (r5 = r3)) then some false else (laws_toClaimS aL).bind fun r6 => (laws_eqClaimS r4 r6).bind fun r7 => (bif (!r7) then some false else some true)))
noncomputable def laws_szHandS (a : List Hand) (left : Int) : Option Int := bif (decide (w64 (left - (ln a)) < 0)) then some (-1) else some (w64 (left - (ln a)))
noncomputable def laws_toHand (a : Hand) : Option Hand := some a
noncomputable def laws_toHandS_l3 (a : List Hand) : ((List Hand) × Int) → Option (((List Hand) × Int) ⊕ (List Hand)) := fun (out, i) => bif (decide (i < ln a)) then nd (inb a i) <| (laws_toHand (gt a i)).bind fun r => nd (inb out i) <| some (.inl (out.set i.toNat r, w64 (i + 1))) else some (.inr out)
noncomputable def laws_toHandS (a : List Hand) : Option (List Hand) := nd (mkB (ln a) 40) <| (run (laws_toHandS_l3 a) (List.replicate (ln a).toNat (⟨0, 0, 0, 0, 0⟩ : Hand), 0)).bind fun b => some b
noncomputable def spec_HandsOf_l3 (l : List Hand) (thing : Int) : ((List Hand) × Int) → Option (((List Hand) × Int) ⊕ (List Hand)) := fun (out, i) => bif (decide (i < ln l)) then nd (inb l i) <| (bif (decide ((gt l i).Thing = thing)) then nd (rm (out.length + 1) 40) <| some (.inl (out ++ [gt l i], w64 (i + 1))) else some (.inl (out, w64 (i + 1)))) else some (.inr out)
noncomputable def spec_HandsOf (l : List Hand) (thing : Int) : Option (List Hand) := (run (spec_HandsOf_l3 l thing) ([], 0)).bind fun b => some b
noncomputable def spec_HolderText (holder : Int) : Option (List UInt8) := (spec_l1In holder 1 5).bind fun r => (bif (!r) then some [] else nd (inb [[], [102, 105, 110, 100, 101, 114], [104, 111, 117, 115, 101], [111, 119, 110, 101, 114], [98, 117, 121, 101, 114], [103, 111, 110, 101]] holder) <| some (gt [[], [102, 105, 110, 100, 101, 114], [104, 111, 117, 115, 101], [111, 119, 110, 101, 114], [98, 117, 121, 101, 114], [103, 111, 110, 101]] holder))
noncomputable def spec_StoryOf_l4 (vh : List Hand) : ((List UInt8) × Int) → Option (((List UInt8) × Int) ⊕ (List UInt8)) := fun (s, i) => bif (decide (i < ln vh)) then (bif (decide (0 < i)) then nd (sfit s [32]) <| nd (inb vh i) <| (spec_HolderText (gt vh i).Holder).bind fun r => nd (sfit (scat s [32]) r) <| (spec_FormatInt (gt vh i).Who).bind fun r2 => nd (sfit (scat (scat s [32]) r) r2) <| nd (sfit (scat (scat (scat s [32]) r) r2) [43]) <| (spec_FormatInt (gt vh i).At).bind fun r3 => nd (sfit (scat (scat (scat (scat s [32]) r) r2) [43]) r3) <| some (.inl (scat (scat (scat (scat (scat s [32]) r) r2) [43]) r3, w64 (i + 1))) else nd (inb vh i) <| (spec_HolderText (gt vh i).Holder).bind fun r4 => nd (sfit s r4) <| (spec_FormatInt (gt vh i).Who).bind fun r5 => nd (sfit (scat s r4) r5) <| nd (sfit (scat (scat s r4) r5) [43]) <| (spec_FormatInt (gt vh i).At).bind fun r6 => nd (sfit (scat (scat (scat s r4) r5) [43]) r6) <| some (.inl (scat (scat (scat (scat s r4) r5) [43]) r6, w64 (i + 1)))) else some (.inr s)
noncomputable def spec_StoryOf (l : List Hand) (thing : Int) : Option (List UInt8) := (spec_HandsOf l thing).bind fun r => (run (spec_StoryOf_l4 r) ([], 0)).bind fun b => (bif (decide (ln r = 0)) then some [45] else some b)
noncomputable def impl_HandsOf_l3 (thing : Int) (t9 : List Hand) (t10 : Int) : ((List Hand) × Int) → Option (((List Hand) × Int) ⊕ (List Hand)) := fun (out, t11) => bif (decide (t11 < t10)) then nd (inb t9 t11) <| (bif (decide ((gt t9 t11).Thing = thing)) then nd (rm (out.length + 1) 40) <| some (.inl (out ++ [gt t9 t11], w64 (t11 + 1))) else some (.inl (out, w64 (t11 + 1)))) else some (.inr out)
noncomputable def impl_HandsOf (l : List Hand) (thing : Int) : Option (List Hand) := (run (impl_HandsOf_l3 thing l (ln l)) ([], 0)).bind fun b => some b
noncomputable def impl_HolderText (holder : Int) : Option (List UInt8) := (impl_InRange holder 1 5).bind fun r => (bif (!r) then some [] else nd (inbK 5 (w64 (holder - 1))) <| some (gt [[102, 105, 110, 100, 101, 114], [104, 111, 117, 115, 101], [111, 119, 110, 101, 114], [98, 117, 121, 101, 114], [103, 111, 110, 101]] (w64 (holder - 1))))
noncomputable def impl_StoryOf_l3 (t11 : List Hand) (t12 : Int) : ((List (List UInt8)) × Int) → Option (((List (List UInt8)) × Int) ⊕ (List (List UInt8))) := fun (out, t13) => bif (decide (t13 < t12)) then nd (inb t11 t13) <| (impl_HolderText (gt t11 t13).Holder).bind fun r => (impl_FormatInt (gt t11 t13).Who).bind fun r2 => nd (sfit r r2) <| nd (sfit (scat r r2) [43]) <| (impl_FormatInt (gt t11 t13).At).bind fun r3 => nd (sfit (scat (scat r r2) [43]) r3) <| nd (rm (out.length + 1) 16) <| some (.inl (out ++ [scat (scat (scat r r2) [43]) r3], w64 (t13 + 1))) else some (.inr out)
noncomputable def impl_StoryOf (l : List Hand) (thing : Int) : Option (List UInt8) := (impl_HandsOf l thing).bind fun r => (run (impl_StoryOf_l3 r (ln r)) ([], 0)).bind fun b => (bif (decide (ln b = 0)) then some [45] else (strings_Join b [32]).bind fun r2 => some r2)
noncomputable def laws_eqHand (a : Hand) (b : Hand) : Option Bool := bif (!decide (a.Thing = b.Thing)) then some false else (bif (!decide (a.Holder = b.Holder)) then some false else (bif (!decide (a.Who = b.Who)) then some false else (bif (!decide (a.At = b.At)) then some false else (bif (!decide (a.Seal = b.Seal)) then some false else some true))))
noncomputable def laws_eqHandS_l4 (a : List Hand) (b : List Hand) : Int → Option (Int ⊕ (Fl Bool Unit)) := fun i => bif (decide (i < ln a)) then nd (inb a i) <| nd (inb b i) <| (laws_eqHand (gt a i) (gt b i)).bind fun r => (bif (!r) then some (.inr (.ret false)) else some (.inl (w64 (i + 1)))) else some (.inr (.brk ()))
noncomputable def laws_eqHandS (a : List Hand) (b : List Hand) : Option Bool := bif (!decide (ln a = ln b)) then some false else (run (laws_eqHandS_l4 a b) 0).bind (evO (fun r => some r) fun b2 => some true)
noncomputable def laws_FnExactStoryOf (aL : List Hand) (aThing : Int) : Option Bool := (laws_szHandS aL 1048576).bind fun r => (bif (decide (r < 0)) then some true else (laws_toHandS aL).bind fun r2 => (spec_StoryOf r2 aThing).bind fun r3 => (laws_toHandS aL).bind fun r4 => (impl_StoryOf r4 aThing).bind fun r5 => (bif (!decide (r5 = r3)) then some false else (laws_toHandS aL).bind fun r6 => (laws_eqHandS r4 r6).bind fun r7 => (bif (!r7) then some false else some true)))
noncomputable def laws_szFindS (a : List Find) (left : Int) : Option Int := bif (decide (w64 (left - (ln a)) < 0)) then some (-1) else some (w64 (left - (ln a)))
noncomputable def laws_szMarkS (a : List Mark) (left : Int) : Option Int := bif (decide (w64 (left - (ln a)) < 0)) then some (-1) else some (w64 (left - (ln a)))
noncomputable def laws_szSecret (a : Secret) (left : Int) : Option Int := (laws_szMarkS a.Marks left).bind fun r => (bif (decide (r < 0)) then some (-1) else some r)
noncomputable def laws_szSecretS_l5 (a : List Secret) : (Int × Int) → Option ((Int × Int) ⊕ (Fl Int Int)) := fun (left, i) => bif (decide (i < ln a)) then nd (inb a i) <| (laws_szSecret (gt a i) left).bind fun r => (bif (decide (r < 0)) then some (.inr (.ret (-1))) else some (.inl (r, w64 (i + 1)))) else some (.inr (.brk left))
noncomputable def laws_szSecretS (a : List Secret) (left : Int) : Option Int := bif (decide (w64 (left - (ln a)) < 0)) then some (-1) else (run (laws_szSecretS_l5 a) (w64 (left - (ln a)), 0)).bind (evO (fun r => some r) fun b => some b)
noncomputable def laws_szTrialS (a : List Trial) (left : Int) : Option Int := bif (decide (w64 (left - (ln a)) < 0)) then some (-1) else some (w64 (left - (ln a)))
noncomputable def laws_szEntryS (a : List Entry) (left : Int) : Option Int := bif (decide (w64 (left - (ln a)) < 0)) then some (-1) else some (w64 (left - (ln a)))
noncomputable def laws_szHouse (a : House) (left : Int) : Option Int := (laws_szFindS a.Finds left).bind fun r => (bif (decide (r < 0)) then some (-1) else (laws_szSecretS a.Secrets r).bind fun r2 => (bif (decide (r2 < 0)) then some (-1) else (laws_szSlotS a.Slots r2).bind fun r3 => (bif (decide (r3 < 0)) then some (-1) else (laws_szClaimS a.Claims r3).bind fun r4 => (bif (decide (r4 < 0)) then some (-1) else (laws_szTrialS a.Trials r4).bind fun r5 => (bif (decide (r5 < 0)) then some (-1) else (laws_szHandS a.Chain r5).bind fun r6 => (bif (decide (r6 < 0)) then some (-1) else (laws_szEntryS a.Book r6).bind fun r7 => (bif (decide (r7 < 0)) then some (-1) else some r7)))))))
noncomputable def laws_toThing (a : Thing) : Option Thing := some a
noncomputable def laws_toFind (a : Find) : Option Find := (laws_toThing a.Thing).bind fun r => some (⟨r, a.Place, a.At, a.Finder⟩ : Find)
noncomputable def laws_toFindS_l3 (a : List Find) : ((List Find) × Int) → Option (((List Find) × Int) ⊕ (List Find)) := fun (out, i) => bif (decide (i < ln a)) then nd (inb a i) <| (laws_toFind (gt a i)).bind fun r => nd (inb out i) <| some (.inl (out.set i.toNat r, w64 (i + 1))) else some (.inr out)
noncomputable def laws_toFindS (a : List Find) : Option (List Find) := nd (mkB (ln a) 64) <| (run (laws_toFindS_l3 a) (List.replicate (ln a).toNat (⟨⟨0, 0, 0, 0, 0⟩, 0, 0, 0⟩ : Find), 0)).bind fun b => some b
noncomputable def laws_toMark (a : Mark) : Option Mark := some a
noncomputable def laws_toMarkS_l3 (a : List Mark) : ((List Mark) × Int) → Option (((List Mark) × Int) ⊕ (List Mark)) := fun (out, i) => bif (decide (i < ln a)) then nd (inb a i) <| (laws_toMark (gt a i)).bind fun r => nd (inb out i) <| some (.inl (out.set i.toNat r, w64 (i + 1))) else some (.inr out)
noncomputable def laws_toMarkS (a : List Mark) : Option (List Mark) := nd (mkB (ln a) 16) <| (run (laws_toMarkS_l3 a) (List.replicate (ln a).toNat (⟨0, 0⟩ : Mark), 0)).bind fun b => some b
noncomputable def laws_toSecret (a : Secret) : Option Secret := (laws_toMarkS a.Marks).bind fun r => some (⟨a.Thing, r, a.Salt⟩ : Secret)
noncomputable def laws_toSecretS_l3 (a : List Secret) : ((List Secret) × Int) → Option (((List Secret) × Int) ⊕ (List Secret)) := fun (out, i) => bif (decide (i < ln a)) then nd (inb a i) <| (laws_toSecret (gt a i)).bind fun r => nd (inb out i) <| some (.inl (out.set i.toNat r, w64 (i + 1))) else some (.inr out)
noncomputable def laws_toSecretS (a : List Secret) : Option (List Secret) := nd (mkB (ln a) 40) <| (run (laws_toSecretS_l3 a) (List.replicate (ln a).toNat (⟨0, [], 0⟩ : Secret), 0)).bind fun b => some b
noncomputable def laws_toTrial (a : Trial) : Option Trial := some a
noncomputable def laws_toTrialS_l3 (a : List Trial) : ((List Trial) × Int) → Option (((List Trial) × Int) ⊕ (List Trial)) := fun (out, i) => bif (decide (i < ln a)) then nd (inb a i) <| (laws_toTrial (gt a i)).bind fun r => nd (inb out i) <| some (.inl (out.set i.toNat r, w64 (i + 1))) else some (.inr out)
noncomputable def laws_toTrialS (a : List Trial) : Option (List Trial) := nd (mkB (ln a) 32) <| (run (laws_toTrialS_l3 a) (List.replicate (ln a).toNat (⟨0, 0, 0, 0⟩ : Trial), 0)).bind fun b => some b
noncomputable def laws_toEntry (a : Entry) : Option Entry := some a
noncomputable def laws_toEntryS_l3 (a : List Entry) : ((List Entry) × Int) → Option (((List Entry) × Int) ⊕ (List Entry)) := fun (out, i) => bif (decide (i < ln a)) then nd (inb a i) <| (laws_toEntry (gt a i)).bind fun r => nd (inb out i) <| some (.inl (out.set i.toNat r, w64 (i + 1))) else some (.inr out)
noncomputable def laws_toEntryS (a : List Entry) : Option (List Entry) := nd (mkB (ln a) 32) <| (run (laws_toEntryS_l3 a) (List.replicate (ln a).toNat (⟨0, 0, 0, 0⟩ : Entry), 0)).bind fun b => some b
noncomputable def laws_toHouse (a : House) : Option House := (laws_toFindS a.Finds).bind fun r => (laws_toSecretS a.Secrets).bind fun r2 => (laws_toSlotS a.Slots).bind fun r3 => (laws_toClaimS a.Claims).bind fun r4 => (laws_toTrialS a.Trials).bind fun r5 => (laws_toHandS a.Chain).bind fun r6 => (laws_toEntryS a.Book).bind fun r7 => some (⟨a.No, r, r2, r3, r4, r5, r6, r7, a.Now⟩ : House)
noncomputable def spec_FormatHouse (vh : House) : Option (List UInt8) := (spec_FormatNumbers [vh.No, vh.Now, ln vh.Finds, ln vh.Claims, ln vh.Chain, ln vh.Book]).bind fun r => some r
noncomputable def impl_FormatHouse (vh : House) : Option (List UInt8) := (impl_FormatNumbers [vh.No, vh.Now, ln vh.Finds, ln vh.Claims, ln vh.Chain, ln vh.Book]).bind fun r => some r
noncomputable def laws_eqThing (a : Thing) (b : Thing) : Option Bool := bif (!decide (a.Id = b.Id)) then some false else (bif (!decide (a.Kind = b.Kind)) then some false else (bif (!decide (a.Colour = b.Colour)) then some false else (bif (!decide (a.Size = b.Size)) then some false else (bif (!decide (a.Worth = b.Worth)) then some false else some true))))
noncomputable def laws_eqFind (a : Find) (b : Find) : Option Bool := (laws_eqThing a.Thing b.Thing).bind fun r => (bif (!r) then some false else (bif (!decide (a.Place = b.Place)) then some false else (bif (!decide (a.At = b.At)) then some false else (bif (!decide (a.Finder = b.Finder)) then some false else some true))))
noncomputable def laws_eqFindS_l4 (a : List Find) (b : List Find) : Int → Option (Int ⊕ (Fl Bool Unit)) := fun i => bif (decide (i < ln a)) then nd (inb a i) <| nd (inb b i) <| (laws_eqFind (gt a i) (gt b i)).bind fun r => (bif (!r) then some (.inr (.ret false)) else some (.inl (w64 (i + 1)))) else some (.inr (.brk ()))
noncomputable def laws_eqFindS (a : List Find) (b : List Find) : Option Bool := bif (!decide (ln a = ln b)) then some false else (run (laws_eqFindS_l4 a b) 0).bind (evO (fun r => some r) fun b2 => some true)
noncomputable def laws_eqMark (a : Mark) (b : Mark) : Option Bool := bif (!decide (a.Question = b.Question)) then some false else (bif (!decide (a.Answer = b.Answer)) then some false else some true)
noncomputable def laws_eqMarkS_l4 (a : List Mark) (b : List Mark) : Int → Option (Int ⊕ (Fl Bool Unit)) := fun i => bif (decide (i < ln a)) then nd (inb a i) <| nd (inb b i) <| (laws_eqMark (gt a i) (gt b i)).bind fun r => (bif (!r) then some (.inr (.ret false)) else some (.inl (w64 (i + 1)))) else some (.inr (.brk ()))
noncomputable def laws_eqMarkS (a : List Mark) (b : List Mark) : Option Bool := bif (!decide (ln a = ln b)) then some false else (run (laws_eqMarkS_l4 a b) 0).bind (evO (fun r => some r) fun b2 => some true)
noncomputable def laws_eqSecret (a : Secret) (b : Secret) : Option Bool := bif (!decide (a.Thing = b.Thing)) then some false else (laws_eqMarkS a.Marks b.Marks).bind fun r => (bif (!r) then some false else (bif (!decide (a.Salt = b.Salt)) then some false else some true))
noncomputable def laws_eqSecretS_l4 (a : List Secret) (b : List Secret) : Int → Option (Int ⊕ (Fl Bool Unit)) := fun i => bif (decide (i < ln a)) then nd (inb a i) <| nd (inb b i) <| (laws_eqSecret (gt a i) (gt b i)).bind fun r => (bif (!r) then some (.inr (.ret false)) else some (.inl (w64 (i + 1)))) else some (.inr (.brk ()))
noncomputable def laws_eqSecretS (a : List Secret) (b : List Secret) : Option Bool := bif (!decide (ln a = ln b)) then some false else (run (laws_eqSecretS_l4 a b) 0).bind (evO (fun r => some r) fun b2 => some true)
noncomputable def laws_eqTrial (a : Trial) (b : Trial) : Option Bool := bif (!decide (a.Claim = b.Claim)) then some false else (bif (!decide (a.Asked = b.Asked)) then some false else (bif (!decide (a.Right = b.Right)) then some false else (bif (!decide (a.Wrong = b.Wrong)) then some false else some true)))
noncomputable def laws_eqTrialS_l4 (a : List Trial) (b : List Trial) : Int → Option (Int ⊕ (Fl Bool Unit)) := fun i => bif (decide (i < ln a)) then nd (inb a i) <| nd (inb b i) <| (laws_eqTrial (gt a i) (gt b i)).bind fun r => (bif (!r) then some (.inr (.ret false)) else some (.inl (w64 (i + 1)))) else some (.inr (.brk ()))
noncomputable def laws_eqTrialS (a : List Trial) (b : List Trial) : Option Bool := bif (!decide (ln a = ln b)) then some false else (run (laws_eqTrialS_l4 a b) 0).bind (evO (fun r => some r) fun b2 => some true)
noncomputable def laws_eqEntry (a : Entry) (b : Entry) : Option Bool := bif (!decide (a.From = b.From)) then some false else (bif (!decide (a.To = b.To)) then some false else (bif (!decide (a.Cents = b.Cents)) then some false else (bif (!decide (a.At = b.At)) then some false else some true)))
noncomputable def laws_eqEntryS_l4 (a : List Entry) (b : List Entry) : Int → Option (Int ⊕ (Fl Bool Unit)) := fun i => bif (decide (i < ln a)) then nd (inb a i) <| nd (inb b i) <| (laws_eqEntry (gt a i) (gt b i)).bind fun r => (bif (!r) then some (.inr (.ret false)) else some (.inl (w64 (i + 1)))) else some (.inr (.brk ()))
noncomputable def laws_eqEntryS (a : List Entry) (b : List Entry) : Option Bool := bif (!decide (ln a = ln b)) then some false else (run (laws_eqEntryS_l4 a b) 0).bind (evO (fun r => some r) fun b2 => some true)
noncomputable def laws_eqHouse (a : House) (b : House) : Option Bool := bif (!decide (a.No = b.No)) then some false else (laws_eqFindS a.Finds b.Finds).bind fun r => (bif (!r) then some false else (laws_eqSecretS a.Secrets b.Secrets).bind fun r2 => (bif (!r2) then some false else (laws_eqSlotS a.Slots b.Slots).bind fun r3 => (bif (!r3) then some false else (laws_eqClaimS a.Claims b.Claims).bind fun r4 => (bif (!r4) then some false else (laws_eqTrialS a.Trials b.Trials).bind fun r5 => (bif (!r5) then some false else (laws_eqHandS a.Chain b.Chain).bind fun r6 => (bif (!r6) then some false else (laws_eqEntryS a.Book b.Book).bind fun r7 => (bif (!r7) then some false else (bif (!decide (a.Now = b.Now)) then some false else some true))))))))
noncomputable def laws_FnExactFormatHouse (aH : House) : Option Bool := (laws_szHouse aH 1048576).bind fun r => (bif (decide (r < 0)) then some true else (laws_toHouse aH).bind fun r2 => (spec_FormatHouse r2).bind fun r3 => (laws_toHouse aH).bind fun r4 => (impl_FormatHouse r4).bind fun r5 => (bif (!decide (r5 = r3)) then some false else (laws_toHouse aH).bind fun r6 => (laws_eqHouse r4 r6).bind fun r7 => (bif (!r7) then some false else some true)))
end Go.Proofs.YtaajilepbclmfaaDoor
