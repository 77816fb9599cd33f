/- The functions, typed. Definitions. No condition. -/
import Derived.Test.YtbbnecdpcblcfaaPw
namespace Go.Proofs.Ytbbnecdpcblcfaa
open Go
set_option linter.unusedVariables false
set_option linter.unusedSimpArgs false
set_option linter.defProp false
set_option maxRecDepth 100000
structure Hit where
  House : Int
  Thing : Int
instance : Inhabited Hit := ⟨⟨0, 0⟩⟩
structure Slot where
  Id : Int
  Size : Int
  Thing : Int
instance : Inhabited Slot := ⟨⟨0, 0, 0⟩⟩
structure Claim where
  Id : Int
  Who : Int
  Thing : Int
  At : Int
  State : Int
instance : Inhabited Claim := ⟨⟨0, 0, 0, 0, 0⟩⟩
structure Hand where
  Thing : Int
  Holder : Int
  Who : Int
  At : Int
  Seal : Int
instance : Inhabited Hand := ⟨⟨0, 0, 0, 0, 0⟩⟩
structure Thing where
  Id : Int
  Kind : Int
  Colour : Int
  Size : Int
  Worth : Int
instance : Inhabited Thing := ⟨⟨0, 0, 0, 0, 0⟩⟩
structure Find where
  Thing : Thing
  Place : Int
  At : Int
  Finder : Int
instance : Inhabited Find := ⟨⟨default, 0, 0, 0⟩⟩
def okHit (x : Hit) : Prop := i64 x.House ∧ i64 x.Thing
def okSlot (x : Slot) : Prop := i64 x.Id ∧ i64 x.Size ∧ i64 x.Thing
def okClaim (x : Claim) : Prop := i64 x.Id ∧ i64 x.Who ∧ i64 x.Thing ∧ i64 x.At ∧ i64 x.State
def okHand (x : Hand) : Prop := i64 x.Thing ∧ i64 x.Holder ∧ i64 x.Who ∧ i64 x.At ∧ i64 x.Seal
def okThing (x : Thing) : Prop := i64 x.Id ∧ i64 x.Kind ∧ i64 x.Colour ∧ i64 x.Size ∧ i64 x.Worth
def okFind (x : Find) : Prop := okThing x.Thing ∧ i64 x.Place ∧ i64 x.At ∧ i64 x.Finder
def eq_Hit (x y : Hit) : Bool := decide (x.House = y.House) && (decide (x.Thing = y.Thing) && true)
theorem e_eq_Hit (x y : Hit) : eq_Hit x y = (decide (x.House = y.House) && (decide (x.Thing = y.Thing) && true)) := _root_.id rfl
noncomputable def spec_l1In (x : Int) (least : Int) (most : Int) : Option Bool := some ((decide (least ≤ x)) && (decide (x ≤ most)))
noncomputable def spec_EventName (kind : Int) : Option (List UInt8) := (spec_l1In kind 1 7).bind fun r => (bif (!r) then some [] else nd (inb [[], [102, 105, 110, 100], [99, 108, 97, 105, 109], [97, 110, 115, 119, 101, 114], [115, 101, 114, 118, 101], [115, 101, 108, 108], [99, 108, 101, 97, 114], [116, 105, 99, 107]] kind) <| some (gt [[], [102, 105, 110, 100], [99, 108, 97, 105, 109], [97, 110, 115, 119, 101, 114], [115, 101, 114, 118, 101], [115, 101, 108, 108], [99, 108, 101, 97, 114], [116, 105, 99, 107]] kind))
noncomputable def impl_EventName (kind : Int) : Option (List UInt8) := bif ((decide (kind < 1)) || (decide (7 < kind))) then some [] else nd (inbK 7 (w64 (kind - 1))) <| some (gt [[102, 105, 110, 100], [99, 108, 97, 105, 109], [97, 110, 115, 119, 101, 114], [115, 101, 114, 118, 101], [115, 101, 108, 108], [99, 108, 101, 97, 114], [116, 105, 99, 107]] (w64 (kind - 1)))
noncomputable def laws_FnExactEventName (aKind : Int) : Option Bool := (spec_EventName aKind).bind fun r => (impl_EventName aKind).bind fun r2 => (bif (!decide (r2 = r)) then some false else some true)
noncomputable def spec_ExampleSlots : Option (List Slot) := some [(⟨1, 5, 0⟩ : Slot), (⟨2, 10, 0⟩ : Slot), (⟨3, 20, 0⟩ : Slot), (⟨4, 50, 0⟩ : Slot)]
noncomputable def impl_ExampleSlots : Option (List Slot) := some [(⟨1, 5, 0⟩ : Slot), (⟨2, 10, 0⟩ : Slot), (⟨3, 20, 0⟩ : Slot), (⟨4, 50, 0⟩ : Slot)]
noncomputable def laws_eqSlot (a : Slot) (b : Slot) : Option Bool := bif (!decide (a.Id = b.Id)) then some false else (bif (!decide (a.Size = b.Size)) then some false else (bif (!decide (a.Thing = b.Thing)) then some false else some true))
noncomputable def laws_eqSlotS_l4 (a : List Slot) (b : List Slot) : Int → Option (Int ⊕ (Fl Bool Unit)) := fun i => bif (decide (i < ln a)) then nd (inb a i) <| nd (inb b i) <| (laws_eqSlot (gt a i) (gt b i)).bind fun r => (bif (!r) then some (.inr (.ret false)) else some (.inl (w64 (i + 1)))) else some (.inr (.brk ()))
noncomputable def laws_eqSlotS (a : List Slot) (b : List Slot) : Option Bool := bif (!decide (ln a = ln b)) then some false else (run (laws_eqSlotS_l4 a b) 0).bind (evO (fun r => some r) fun b2 => some true)
noncomputable def laws_szHitS (a : List Hit) (left : Int) : Option Int := bif (decide (w64 (left - (ln a)) < 0)) then some (-1) else some (w64 (left - (ln a)))
noncomputable def laws_toHit (a : Hit) : Option Hit := some a
noncomputable def laws_toHitS_l3 (a : List Hit) : ((List Hit) × Int) → Option (((List Hit) × Int) ⊕ (List Hit)) := fun (out, i) => bif (decide (i < ln a)) then nd (inb a i) <| (laws_toHit (gt a i)).bind fun r => nd (inb out i) <| some (.inl (out.set i.toNat r, w64 (i + 1))) else some (.inr out)
noncomputable def laws_toHitS (a : List Hit) : Option (List Hit) := nd (mkB (ln a) 16) <| (run (laws_toHitS_l3 a) (List.replicate (ln a).toNat (⟨0, 0⟩ : Hit), 0)).bind fun b => some b
noncomputable def spec_EqualHits_l4 (a : List Hit) (b : List Hit) : Int → Option (Int ⊕ (Fl Bool Unit)) := fun i => bif (decide (i < ln a)) then nd (inb a i) <| nd (inb b i) <| (bif (!(eq_Hit (gt a i) (gt b i))) then some (.inr (.ret false)) else some (.inl (w64 (i + 1)))) else some (.inr (.brk ()))
noncomputable def spec_EqualHits (a : List Hit) (b : List Hit) : Option Bool := bif (!decide (ln a = ln b)) then some false else (run (spec_EqualHits_l4 a b) 0).bind (evO (fun r => some r) fun b2 => some true)
noncomputable def slices_Equal_Hit_l4 (s1 : List Hit) (s2 : List Hit) (t12 : Int) : Int → Option (Int ⊕ (Fl Bool Unit)) := fun t13 => bif (decide (t13 < t12)) then nd (inb s1 t13) <| nd (inb s2 t13) <| (bif (!(eq_Hit (gt s1 t13) (gt s2 t13))) then some (.inr (.ret false)) else some (.inl (w64 (t13 + 1)))) else some (.inr (.brk ()))
noncomputable def slices_Equal_Hit (s1 : List Hit) (s2 : List Hit) : Option Bool := bif (!decide (ln s1 = ln s2)) then some false else (run (slices_Equal_Hit_l4 s1 s2 (ln s1)) 0).bind (evO (fun r => some r) fun b => some true)
noncomputable def impl_EqualHits (a : List Hit) (b : List Hit) : Option Bool := (slices_Equal_Hit a b).bind fun r => some r
noncomputable def laws_eqHit (a : Hit) (b : Hit) : Option Bool := bif (!decide (a.House = b.House)) then some false else (bif (!decide (a.Thing = b.Thing)) then some false else some true)
noncomputable def laws_eqHitS_l4 (a : List Hit) (b : List Hit) : Int → Option (Int ⊕ (Fl Bool Unit)) := fun i => bif (decide (i < ln a)) then nd (inb a i) <| nd (inb b i) <| (laws_eqHit (gt a i) (gt b i)).bind fun r => (bif (!r) then some (.inr (.ret false)) else some (.inl (w64 (i + 1)))) else some (.inr (.brk ()))
noncomputable def laws_eqHitS (a : List Hit) (b : List Hit) : Option Bool := bif (!decide (ln a = ln b)) then some false else (run (laws_eqHitS_l4 a b) 0).bind (evO (fun r => some r) fun b2 => some true)
noncomputable def laws_FnExactEqualHits (aA : List Hit) (aB : List Hit) : Option Bool := (laws_szHitS aA 1048576).bind fun r => (bif (decide (r < 0)) then some true else (laws_szHitS aB r).bind fun r2 => (bif (decide (r2 < 0)) then some true else (laws_toHitS aA).bind fun r3 => (laws_toHitS aB).bind fun r4 => (spec_EqualHits r3 r4).bind fun r5 => (laws_toHitS aA).bind fun r6 => (laws_toHitS aB).bind fun r7 => (impl_EqualHits r6 r7).bind fun r8 => (bif (!decide (r8 = r5)) then some false else (laws_toHitS aA).bind fun r9 => (laws_eqHitS r6 r9).bind fun r10 => (bif (!r10) then some false else (laws_toHitS aB).bind fun r11 => (laws_eqHitS r7 r11).bind fun r12 => (bif (!r12) then some false else some true)))))
noncomputable def laws_szClaimS (a : List Claim) (left : Int) : Option Int := bif (decide (w64 (left - (ln a)) < 0)) then some (-1) else some (w64 (left - (ln a)))
noncomputable def laws_toClaim (a : Claim) : Option Claim := some a
noncomputable def laws_toClaimS_l3 (a : List Claim) : ((List Claim) × Int) → Option (((List Claim) × Int) ⊕ (List Claim)) := fun (out, i) => bif (decide (i < ln a)) then nd (inb a i) <| (laws_toClaim (gt a i)).bind fun r => nd (inb out i) <| some (.inl (out.set i.toNat r, w64 (i + 1))) else some (.inr out)
noncomputable def laws_toClaimS (a : List Claim) : Option (List Claim) := nd (mkB (ln a) 40) <| (run (laws_toClaimS_l3 a) (List.replicate (ln a).toNat (⟨0, 0, 0, 0, 0⟩ : Claim), 0)).bind fun b => some b
noncomputable def spec_OpenClaims_l3 (l : List Claim) : (Int × Int) → Option ((Int × Int) ⊕ Int) := fun (vn, i) => bif (decide (i < ln l)) then nd (inb l i) <| (bif (decide ((gt l i).State = 0)) then some (.inl (w64 (vn + 1), w64 (i + 1))) else some (.inl (vn, w64 (i + 1)))) else some (.inr vn)
noncomputable def spec_OpenClaims (l : List Claim) : Option Int := (run (spec_OpenClaims_l3 l) (0, 0)).bind fun b => some b
noncomputable def impl_OpenClaims_l3 (t6 : List Claim) (t7 : Int) : (Int × Int) → Option ((Int × Int) ⊕ Int) := fun (vn, t8) => bif (decide (t8 < t7)) then nd (inb t6 t8) <| (bif (decide ((gt t6 t8).State = 0)) then some (.inl (w64 (vn + 1), w64 (t8 + 1))) else some (.inl (vn, w64 (t8 + 1)))) else some (.inr vn)
noncomputable def impl_OpenClaims (l : List Claim) : Option Int := (run (impl_OpenClaims_l3 l (ln l)) (0, 0)).bind fun b => some b
noncomputable def laws_eqClaim (a : Claim) (b : Claim) : Option Bool := bif (!decide (a.Id = b.Id)) then some false else (bif (!decide (a.Who = b.Who)) then some false else (bif (!decide (a.Thing = b.Thing)) then some false else (bif (!decide (a.At = b.At)) then some false else (bif (!decide (a.State = b.State)) then some false else some true))))
noncomputable def laws_eqClaimS_l4 (a : List Claim) (b : List Claim) : Int → Option (Int ⊕ (Fl Bool Unit)) := fun i => bif (decide (i < ln a)) then nd (inb a i) <| nd (inb b i) <| (laws_eqClaim (gt a i) (gt b i)).bind fun r => (bif (!r) then some (.inr (.ret false)) else some (.inl (w64 (i + 1)))) else some (.inr (.brk ()))
noncomputable def laws_eqClaimS (a : List Claim) (b : List Claim) : Option Bool := bif (!decide (ln a = ln b)) then some false else (run (laws_eqClaimS_l4 a b) 0).bind (evO (fun r => some r) fun b2 => some true)
noncomputable def laws_FnExactOpenClaims (aL : List Claim) : Option Bool := (laws_szClaimS aL 1048576).bind fun r => (bif (decide (r < 0)) then some true else (laws_toClaimS aL).bind fun r2 => (spec_OpenClaims r2).bind fun r3 => (laws_toClaimS aL).bind fun r4 => (impl_OpenClaims r4).bind fun r5 => (bif (!decide (r5 = r3)) then some false else (laws_toClaimS aL).bind fun r6 => (laws_eqClaimS r4 r6).bind fun r7 => (bif (!r7) then some false else some true)))
noncomputable def laws_szHandS (a : List Hand) (left : Int) : Option Int := bif (decide (w64 (left - (ln a)) < 0)) then some (-1) else some (w64 (left - (ln a)))
noncomputable def laws_toHand (a : Hand) : Option Hand := some a
noncomputable def laws_toHandS_l3 (a : List Hand) : ((List Hand) × Int) → Option (((List Hand) × Int) ⊕ (List Hand)) := fun (out, i) => bif (decide (i < ln a)) then nd (inb a i) <| (laws_toHand (gt a i)).bind fun r => nd (inb out i) <| some (.inl (out.set i.toNat r, w64 (i + 1))) else some (.inr out)
noncomputable def laws_toHandS (a : List Hand) : Option (List Hand) := nd (mkB (ln a) 40) <| (run (laws_toHandS_l3 a) (List.replicate (ln a).toNat (⟨0, 0, 0, 0, 0⟩ : Hand), 0)).bind fun b => some b
noncomputable def spec_HandsOf_l3 (l : List Hand) (thing : Int) : ((List Hand) × Int) → Option (((List Hand) × Int) ⊕ (List Hand)) := fun (out, i) => bif (decide (i < ln l)) then nd (inb l i) <| (bif (decide ((gt l i).Thing = thing)) then nd (rm (out.length + 1) 40) <| some (.inl (out ++ [gt l i], w64 (i + 1))) else some (.inl (out, w64 (i + 1)))) else some (.inr out)
noncomputable def spec_HandsOf (l : List Hand) (thing : Int) : Option (List Hand) := (run (spec_HandsOf_l3 l thing) ([], 0)).bind fun b => some b
noncomputable def spec_TravelCount_l4 (vh : List Hand) : (Int × Int) → Option ((Int × Int) ⊕ Int) := fun (vn, i) => bif (decide (i < ln vh)) then nd (inb vh i) <| (bif (decide ((gt vh i).Holder = 2)) then nd (inb vh (w64 (i - 1))) <| (bif (decide ((gt vh (w64 (i - 1))).Holder = 2)) then some (.inl (w64 (vn + 1), w64 (i + 1))) else some (.inl (vn, w64 (i + 1)))) else some (.inl (vn, w64 (i + 1)))) else some (.inr vn)
noncomputable def spec_TravelCount (l : List Hand) (thing : Int) : Option Int := (spec_HandsOf l thing).bind fun r => (run (spec_TravelCount_l4 r) (0, 1)).bind fun b => some b
noncomputable def impl_HandsOf_l3 (thing : Int) (t9 : List Hand) (t10 : Int) : ((List Hand) × Int) → Option (((List Hand) × Int) ⊕ (List Hand)) := fun (out, t11) => bif (decide (t11 < t10)) then nd (inb t9 t11) <| (bif (decide ((gt t9 t11).Thing = thing)) then nd (rm (out.length + 1) 40) <| some (.inl (out ++ [gt t9 t11], w64 (t11 + 1))) else some (.inl (out, w64 (t11 + 1)))) else some (.inr out)
noncomputable def impl_HandsOf (l : List Hand) (thing : Int) : Option (List Hand) := (run (impl_HandsOf_l3 thing l (ln l)) ([], 0)).bind fun b => some b
noncomputable def impl_TravelCount_l4 (hands : List Hand) : (Int × Int) → Option ((Int × Int) ⊕ Int) := fun (vn, i) => bif (decide (i < ln hands)) then nd (inb hands i) <| (bif (decide ((gt hands i).Holder = 2)) then nd (inb hands (w64 (i - 1))) <| (bif (decide ((gt hands (w64 (i - 1))).Holder = 2)) then some (.inl (w64 (vn + 1), w64 (i + 1))) else some (.inl (vn, w64 (i + 1)))) else some (.inl (vn, w64 (i + 1)))) else some (.inr vn)
noncomputable def impl_TravelCount (l : List Hand) (thing : Int) : Option Int := (impl_HandsOf l thing).bind fun r => (run (impl_TravelCount_l4 r) (0, 1)).bind fun b => some b
noncomputable def laws_eqHand (a : Hand) (b : Hand) : Option Bool := bif (!decide (a.Thing = b.Thing)) then some false else (bif (!decide (a.Holder = b.Holder)) then some false else (bif (!decide (a.Who = b.Who)) then some false else (bif (!decide (a.At = b.At)) then some false else (bif (!decide (a.Seal = b.Seal)) then some false else some true))))
noncomputable def laws_eqHandS_l4 (a : List Hand) (b : List Hand) : Int → Option (Int ⊕ (Fl Bool Unit)) := fun i => bif (decide (i < ln a)) then nd (inb a i) <| nd (inb b i) <| (laws_eqHand (gt a i) (gt b i)).bind fun r => (bif (!r) then some (.inr (.ret false)) else some (.inl (w64 (i + 1)))) else some (.inr (.brk ()))
noncomputable def laws_eqHandS (a : List Hand) (b : List Hand) : Option Bool := bif (!decide (ln a = ln b)) then some false else (run (laws_eqHandS_l4 a b) 0).bind (evO (fun r => some r) fun b2 => some true)
noncomputable def laws_FnExactTravelCount (aL : List Hand) (aThing : Int) : Option Bool := (laws_szHandS aL 1048576).bind fun r => (bif (decide (r < 0)) then some true else (laws_toHandS aL).bind fun r2 => (spec_TravelCount r2 aThing).bind fun r3 => (laws_toHandS aL).bind fun r4 => (impl_TravelCount r4 aThing).bind fun r5 => (bif (!decide (r5 = r3)) then some false else (laws_toHandS aL).bind fun r6 => (laws_eqHandS r4 r6).bind fun r7 => (bif (!r7) then some false else some true)))
noncomputable def laws_szFindS (a : List Find) (left : Int) : Option Int := bif (decide (w64 (left - (ln a)) < 0)) then some (-1) else some (w64 (left - (ln a)))
noncomputable def laws_toThing (a : Thing) : Option Thing := some a
noncomputable def laws_toFind (a : Find) : Option Find := (laws_toThing a.Thing).bind fun r => some (⟨r, a.Place, a.At, a.Finder⟩ : Find)
noncomputable def laws_toFindS_l3 (a : List Find) : ((List Find) × Int) → Option (((List Find) × Int) ⊕ (List Find)) := fun (out, i) => bif (decide (i < ln a)) then nd (inb a i) <| (laws_toFind (gt a i)).bind fun r => nd (inb out i) <| some (.inl (out.set i.toNat r, w64 (i + 1))) else some (.inr out)
noncomputable def laws_toFindS (a : List Find) : Option (List Find) := nd (mkB (ln a) 64) <| (run (laws_toFindS_l3 a) (List.replicate (ln a).toNat (⟨⟨0, 0, 0, 0, 0⟩, 0, 0, 0⟩ : Find), 0)).bind fun b => some b
noncomputable def spec_CountKind_l3 (l : List Find) (kind : Int) : (Int × Int) → Option ((Int × Int) ⊕ Int) := fun (vn, i) => bif (decide (i < ln l)) then nd (inb l i) <| (bif (decide ((gt l i).Thing.Kind = kind)) then some (.inl (w64 (vn + 1), w64 (i + 1))) else some (.inl (vn, w64 (i + 1)))) else some (.inr vn)
noncomputable def spec_CountKind (l : List Find) (kind : Int) : Option Int := (run (spec_CountKind_l3 l kind) (0, 0)).bind fun b => some b
noncomputable def impl_CountKind_l3 (kind : Int) (t8 : List Find) (t9 : Int) : (Int × Int) → Option ((Int × Int) ⊕ Int) := fun (vn, t10) => bif (decide (t10 < t9)) then nd (inb t8 t10) <| (bif (decide ((gt t8 t10).Thing.Kind = kind)) then some (.inl (w64 (vn + 1), w64 (t10 + 1))) else some (.inl (vn, w64 (t10 + 1)))) else some (.inr vn)
noncomputable def impl_CountKind (l : List Find) (kind : Int) : Option Int := (run (impl_CountKind_l3 kind l (ln l)) (0, 0)).bind fun b => some b
noncomputable def laws_eqThing (a : Thing) (b : Thing) : Option Bool := bif (!decide (a.Id = b.Id)) then some false else (bif (!decide (a.Kind = b.Kind)) then some false else (bif (!decide (a.Colour = b.Colour)) then some false else (bif (!decide (a.Size = b.Size)) then some false else (bif (!decide (a.Worth = b.Worth)) then some false else some true))))
noncomputable def laws_eqFind (a : Find) (b : Find) : Option Bool := (laws_eqThing a.Thing b.Thing).bind fun r => (bif (!r) then some false else (bif (!decide (a.Place = b.Place)) then some false else (bif (!decide (a.At = b.At)) then some false else (bif (!decide (a.Finder = b.Finder)) then some false else some true))))
noncomputable def laws_eqFindS_l4 (a : List Find) (b : List Find) : Int → Option (Int ⊕ (Fl Bool Unit)) := fun i => bif (decide (i < ln a)) then nd (inb a i) <| nd (inb b i) <| (laws_eqFind (gt a i) (gt b i)).bind fun r => (bif (!r) then some (.inr (.ret false)) else some (.inl (w64 (i + 1)))) else some (.inr (.brk ()))
noncomputable def laws_eqFindS (a : List Find) (b : List Find) : Option Bool := bif (!decide (ln a = ln b)) then some false else (run (laws_eqFindS_l4 a b) 0).bind (evO (fun r => some r) fun b2 => some true)
noncomputable def laws_FnExactCountKind (aL : List Find) (aKind : Int) : Option Bool := (laws_szFindS aL 1048576).bind fun r => (bif (decide (r < 0)) then some true else (laws_toFindS aL).bind fun r2 => (spec_CountKind r2 aKind).bind fun r3 => (laws_toFindS aL).bind fun r4 => (impl_CountKind r4 aKind).bind fun r5 => (bif (!decide (r5 = r3)) then some false else (laws_toFindS aL).bind fun r6 => (laws_eqFindS r4 r6).bind fun r7 => (bif (!r7) then some false else some true)))
noncomputable def laws_heldSlotS_l2 (a : List Slot) : (Int × Int) → Option ((Int × Int) ⊕ (Fl Int Int)) := fun (k, i) => bif (decide (i < ln a)) then nd (inb a i) <| (bif (!decide ((gt a i).Id = k)) then some (.inr (.ret (-1))) else (bif (!decide ((gt a i).Size = w64 (k + 1))) then some (.inr (.ret (-1))) else (bif (!decide ((gt a i).Thing = w64 ((w64 (k + 1)) + 1))) then some (.inr (.ret (-1))) else some (.inl (w64 ((w64 ((w64 (k + 1)) + 1)) + 1), w64 (i + 1)))))) else some (.inr (.brk k))
noncomputable def laws_heldSlotS (a : List Slot) (k : Int) : Option Int := (run (laws_heldSlotS_l2 a) (k, 0)).bind (evO (fun r => some r) fun b => some b)
end Go.Proofs.Ytbbnecdpcblcfaa
