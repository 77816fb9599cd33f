/- The functions, typed. Definitions. No condition. -/
import Derived.Test.YtcpelionmmnogaaPw
namespace Go.Proofs.Ytcpelionmmnogaa
open Go
set_option linter.unusedVariables false
set_option linter.unusedSimpArgs false
set_option linter.defProp false
set_option maxRecDepth 100000
structure Mark where
  Question : Int
  Answer : Int
instance : Inhabited Mark := ⟨⟨0, 0⟩⟩
structure Thing where
  Id : Int
  Kind : Int
  Colour : Int
  Size : Int
  Worth : Int
instance : Inhabited Thing := ⟨⟨0, 0, 0, 0, 0⟩⟩
structure Find where
  Thing : Thing
  Place : Int
  At : Int
  Finder : Int
instance : Inhabited Find := ⟨⟨default, 0, 0, 0⟩⟩
structure Slot where
  Id : Int
  Size : Int
  Thing : Int
instance : Inhabited Slot := ⟨⟨0, 0, 0⟩⟩
structure Claim where
  Id : Int
  Who : Int
  Thing : Int
  At : Int
  State : Int
instance : Inhabited Claim := ⟨⟨0, 0, 0, 0, 0⟩⟩
structure Trial where
  Claim : Int
  Asked : Int
  Right : Int
  Wrong : Int
instance : Inhabited Trial := ⟨⟨0, 0, 0, 0⟩⟩
structure Hand where
  Thing : Int
  Holder : Int
  Who : Int
  At : Int
  Seal : Int
instance : Inhabited Hand := ⟨⟨0, 0, 0, 0, 0⟩⟩
structure Entry where
  From : Int
  To : Int
  Cents : Int
  At : Int
instance : Inhabited Entry := ⟨⟨0, 0, 0, 0⟩⟩
structure Secret where
  Thing : Int
  Marks : List Mark
  Salt : Int
instance : Inhabited Secret := ⟨⟨0, [], 0⟩⟩
structure House where
  No : Int
  Finds : List Find
  Secrets : List Secret
  Slots : List Slot
  Claims : List Claim
  Trials : List Trial
  Chain : List Hand
  Book : List Entry
  Now : Int
instance : Inhabited House := ⟨⟨0, [], [], [], [], [], [], [], 0⟩⟩
structure Bid where
  Who : Int
  Cents : Int
  Seal : Int
instance : Inhabited Bid := ⟨⟨0, 0, 0⟩⟩
structure Event where
  Kind : Int
  Find : Find
  Marks : List Mark
  Id : Int
  Who : Int
  N : Int
  Bids : List Bid
instance : Inhabited Event := ⟨⟨0, default, [], 0, 0, 0, []⟩⟩
def okMark (x : Mark) : Prop := i64 x.Question ∧ i64 x.Answer
def okThing (x : Thing) : Prop := i64 x.Id ∧ i64 x.Kind ∧ i64 x.Colour ∧ i64 x.Size ∧ i64 x.Worth
def okFind (x : Find) : Prop := okThing x.Thing ∧ i64 x.Place ∧ i64 x.At ∧ i64 x.Finder
def okSlot (x : Slot) : Prop := i64 x.Id ∧ i64 x.Size ∧ i64 x.Thing
def okClaim (x : Claim) : Prop := i64 x.Id ∧ i64 x.Who ∧ i64 x.Thing ∧ i64 x.At ∧ i64 x.State
def okTrial (x : Trial) : Prop := i64 x.Claim ∧ i64 x.Asked ∧ i64 x.Right ∧ i64 x.Wrong
def okHand (x : Hand) : Prop := i64 x.Thing ∧ i64 x.Holder ∧ i64 x.Who ∧ i64 x.At ∧ i64 x.Seal
def okEntry (x : Entry) : Prop := i64 x.From ∧ i64 x.To ∧ i64 x.Cents ∧ i64 x.At
def okSecret (x : Secret) : Prop := i64 x.Thing ∧ (okL okMark) x.Marks ∧ i64 x.Salt
def okHouse (x : House) : Prop := i64 x.No ∧ (okL okFind) x.Finds ∧ (okL okSecret) x.Secrets ∧ (okL okSlot) x.Slots ∧ (okL okClaim) x.Claims ∧ (okL okTrial) x.Trials ∧ (okL okHand) x.Chain ∧ (okL okEntry) x.Book ∧ i64 x.Now
def okBid (x : Bid) : Prop := i64 x.Who ∧ i64 x.Cents ∧ i64 x.Seal
def okEvent (x : Event) : Prop := i64 x.Kind ∧ okFind x.Find ∧ (okL okMark) x.Marks ∧ i64 x.Id ∧ i64 x.Who ∧ i64 x.N ∧ (okL okBid) x.Bids
def eq_Mark (x y : Mark) : Bool := decide (x.Question = y.Question) && (decide (x.Answer = y.Answer) && true)
theorem e_eq_Mark (x y : Mark) : eq_Mark x y = (decide (x.Question = y.Question) && (decide (x.Answer = y.Answer) && true)) := _root_.id rfl
def eq_Find (x y : Find) : Bool := decide (x.Thing.Id = y.Thing.Id) && (decide (x.Thing.Kind = y.Thing.Kind) && (decide (x.Thing.Colour = y.Thing.Colour) && (decide (x.Thing.Size = y.Thing.Size) && (decide (x.Thing.Worth = y.Thing.Worth) && (decide (x.Place = y.Place) && (decide (x.At = y.At) && (decide (x.Finder = y.Finder) && true)))))))
theorem e_eq_Find (x y : Find) : eq_Find x y = (decide (x.Thing.Id = y.Thing.Id) && (decide (x.Thing.Kind = y.Thing.Kind) && (decide (x.Thing.Colour = y.Thing.Colour) && (decide (x.Thing.Size = y.Thing.Size) && (decide (x.Thing.Worth = y.Thing.Worth) && (decide (x.Place = y.Place) && (decide (x.At = y.At) && (decide (x.Finder = y.Finder) && true)))))))) := _root_.id rfl
def eq_Slot (x y : Slot) : Bool := decide (x.Id = y.Id) && (decide (x.Size = y.Size) && (decide (x.Thing = y.Thing) && true))
theorem e_eq_Slot (x y : Slot) : eq_Slot x y = (decide (x.Id = y.Id) && (decide (x.Size = y.Size) && (decide (x.Thing = y.Thing) && true))) := _root_.id rfl
def eq_Claim (x y : Claim) : Bool := decide (x.Id = y.Id) && (decide (x.Who = y.Who) && (decide (x.Thing = y.Thing) && (decide (x.At = y.At) && (decide (x.State = y.State) && true))))
theorem e_eq_Claim (x y : Claim) : eq_Claim x y = (decide (x.Id = y.Id) && (decide (x.Who = y.Who) && (decide (x.Thing = y.Thing) && (decide (x.At = y.At) && (decide (x.State = y.State) && true))))) := _root_.id rfl
def eq_Trial (x y : Trial) : Bool := decide (x.Claim = y.Claim) && (decide (x.Asked = y.Asked) && (decide (x.Right = y.Right) && (decide (x.Wrong = y.Wrong) && true)))
theorem e_eq_Trial (x y : Trial) : eq_Trial x y = (decide (x.Claim = y.Claim) && (decide (x.Asked = y.Asked) && (decide (x.Right = y.Right) && (decide (x.Wrong = y.Wrong) && true)))) := _root_.id rfl
def eq_Hand (x y : Hand) : Bool := decide (x.Thing = y.Thing) && (decide (x.Holder = y.Holder) && (decide (x.Who = y.Who) && (decide (x.At = y.At) && (decide (x.Seal = y.Seal) && true))))
theorem e_eq_Hand (x y : Hand) : eq_Hand x y = (decide (x.Thing = y.Thing) && (decide (x.Holder = y.Holder) && (decide (x.Who = y.Who) && (decide (x.At = y.At) && (decide (x.Seal = y.Seal) && true))))) := _root_.id rfl
def eq_Entry (x y : Entry) : Bool := decide (x.From = y.From) && (decide (x.To = y.To) && (decide (x.Cents = y.Cents) && (decide (x.At = y.At) && true)))
theorem e_eq_Entry (x y : Entry) : eq_Entry x y = (decide (x.From = y.From) && (decide (x.To = y.To) && (decide (x.Cents = y.Cents) && (decide (x.At = y.At) && true)))) := _root_.id rfl
noncomputable def laws_szFindS (a : List Find) (left : Int) : Option Int := bif (decide (w64 (left - (ln a)) < 0)) then some (-1) else some (w64 (left - (ln a)))
noncomputable def laws_szMarkS (a : List Mark) (left : Int) : Option Int := bif (decide (w64 (left - (ln a)) < 0)) then some (-1) else some (w64 (left - (ln a)))
noncomputable def laws_toThing (a : Thing) : Option Thing := some a
noncomputable def laws_toFind (a : Find) : Option Find := (laws_toThing a.Thing).bind fun r => some (⟨r, a.Place, a.At, a.Finder⟩ : Find)
noncomputable def laws_toFindS_l3 (a : List Find) : ((List Find) × Int) → Option (((List Find) × Int) ⊕ (List Find)) := fun (out, i) => bif (decide (i < ln a)) then nd (inb a i) <| (laws_toFind (gt a i)).bind fun r => nd (inb out i) <| some (.inl (out.set i.toNat r, w64 (i + 1))) else some (.inr out)
noncomputable def laws_toFindS (a : List Find) : Option (List Find) := nd (mkB (ln a) 64) <| (run (laws_toFindS_l3 a) (List.replicate (ln a).toNat (⟨⟨0, 0, 0, 0, 0⟩, 0, 0, 0⟩ : Find), 0)).bind fun b => some b
noncomputable def laws_toMark (a : Mark) : Option Mark := some a
noncomputable def laws_toMarkS_l3 (a : List Mark) : ((List Mark) × Int) → Option (((List Mark) × Int) ⊕ (List Mark)) := fun (out, i) => bif (decide (i < ln a)) then nd (inb a i) <| (laws_toMark (gt a i)).bind fun r => nd (inb out i) <| some (.inl (out.set i.toNat r, w64 (i + 1))) else some (.inr out)
noncomputable def laws_toMarkS (a : List Mark) : Option (List Mark) := nd (mkB (ln a) 16) <| (run (laws_toMarkS_l3 a) (List.replicate (ln a).toNat (⟨0, 0⟩ : Mark), 0)).bind fun b => some b
noncomputable def laws_szSecret (a : Secret) (left : Int) : Option Int := (laws_szMarkS a.Marks left).bind fun r => (bif (decide (r < 0)) then some (-1) else some r)
noncomputable def laws_szSecretS_l5 (a : List Secret) : (Int × Int) → Option ((Int × Int) ⊕ (Fl Int Int)) := fun (left, i) => bif (decide (i < ln a)) then nd (inb a i) <| (laws_szSecret (gt a i) left).bind fun r => (bif (decide (r < 0)) then some (.inr (.ret (-1))) else some (.inl (r, w64 (i + 1)))) else some (.inr (.brk left))
noncomputable def laws_szSecretS (a : List Secret) (left : Int) : Option Int := bif (decide (w64 (left - (ln a)) < 0)) then some (-1) else (run (laws_szSecretS_l5 a) (w64 (left - (ln a)), 0)).bind (evO (fun r => some r) fun b => some b)
noncomputable def laws_szSlotS (a : List Slot) (left : Int) : Option Int := bif (decide (w64 (left - (ln a)) < 0)) then some (-1) else some (w64 (left - (ln a)))
noncomputable def laws_szClaimS (a : List Claim) (left : Int) : Option Int := bif (decide (w64 (left - (ln a)) < 0)) then some (-1) else some (w64 (left - (ln a)))
noncomputable def laws_szTrialS (a : List Trial) (left : Int) : Option Int := bif (decide (w64 (left - (ln a)) < 0)) then some (-1) else some (w64 (left - (ln a)))
noncomputable def laws_szHandS (a : List Hand) (left : Int) : Option Int := bif (decide (w64 (left - (ln a)) < 0)) then some (-1) else some (w64 (left - (ln a)))
noncomputable def laws_szEntryS (a : List Entry) (left : Int) : Option Int := bif (decide (w64 (left - (ln a)) < 0)) then some (-1) else some (w64 (left - (ln a)))
noncomputable def laws_szHouse (a : House) (left : Int) : Option Int := (laws_szFindS a.Finds left).bind fun r => (bif (decide (r < 0)) then some (-1) else (laws_szSecretS a.Secrets r).bind fun r2 => (bif (decide (r2 < 0)) then some (-1) else (laws_szSlotS a.Slots r2).bind fun r3 => (bif (decide (r3 < 0)) then some (-1) else (laws_szClaimS a.Claims r3).bind fun r4 => (bif (decide (r4 < 0)) then some (-1) else (laws_szTrialS a.Trials r4).bind fun r5 => (bif (decide (r5 < 0)) then some (-1) else (laws_szHandS a.Chain r5).bind fun r6 => (bif (decide (r6 < 0)) then some (-1) else (laws_szEntryS a.Book r6).bind fun r7 => (bif (decide (r7 < 0)) then some (-1) else some r7)))))))
noncomputable def laws_toSecret (a : Secret) : Option Secret := (laws_toMarkS a.Marks).bind fun r => some (⟨a.Thing, r, a.Salt⟩ : Secret)
noncomputable def laws_toSecretS_l3 (a : List Secret) : ((List Secret) × Int) → Option (((List Secret) × Int) ⊕ (List Secret)) := fun (out, i) => bif (decide (i < ln a)) then nd (inb a i) <| (laws_toSecret (gt a i)).bind fun r => nd (inb out i) <| some (.inl (out.set i.toNat r, w64 (i + 1))) else some (.inr out)
noncomputable def laws_toSecretS (a : List Secret) : Option (List Secret) := nd (mkB (ln a) 40) <| (run (laws_toSecretS_l3 a) (List.replicate (ln a).toNat (⟨0, [], 0⟩ : Secret), 0)).bind fun b => some b
noncomputable def laws_toSlot (a : Slot) : Option Slot := some a
noncomputable def laws_toSlotS_l3 (a : List Slot) : ((List Slot) × Int) → Option (((List Slot) × Int) ⊕ (List Slot)) := fun (out, i) => bif (decide (i < ln a)) then nd (inb a i) <| (laws_toSlot (gt a i)).bind fun r => nd (inb out i) <| some (.inl (out.set i.toNat r, w64 (i + 1))) else some (.inr out)
noncomputable def laws_toSlotS (a : List Slot) : Option (List Slot) := nd (mkB (ln a) 24) <| (run (laws_toSlotS_l3 a) (List.replicate (ln a).toNat (⟨0, 0, 0⟩ : Slot), 0)).bind fun b => some b
noncomputable def laws_toClaim (a : Claim) : Option Claim := some a
noncomputable def laws_toClaimS_l3 (a : List Claim) : ((List Claim) × Int) → Option (((List Claim) × Int) ⊕ (List Claim)) := fun (out, i) => bif (decide (i < ln a)) then nd (inb a i) <| (laws_toClaim (gt a i)).bind fun r => nd (inb out i) <| some (.inl (out.set i.toNat r, w64 (i + 1))) else some (.inr out)
noncomputable def laws_toClaimS (a : List Claim) : Option (List Claim) := nd (mkB (ln a) 40) <| (run (laws_toClaimS_l3 a) (List.replicate (ln a).toNat (⟨0, 0, 0, 0, 0⟩ : Claim), 0)).bind fun b => some b
noncomputable def laws_toTrial (a : Trial) : Option Trial := some a
noncomputable def laws_toTrialS_l3 (a : List Trial) : ((List Trial) × Int) → Option (((List Trial) × Int) ⊕ (List Trial)) := fun (out, i) => bif (decide (i < ln a)) then nd (inb a i) <| (laws_toTrial (gt a i)).bind fun r => nd (inb out i) <| some (.inl (out.set i.toNat r, w64 (i + 1))) else some (.inr out)
noncomputable def laws_toTrialS (a : List Trial) : Option (List Trial) := nd (mkB (ln a) 32) <| (run (laws_toTrialS_l3 a) (List.replicate (ln a).toNat (⟨0, 0, 0, 0⟩ : Trial), 0)).bind fun b => some b
noncomputable def laws_toHand (a : Hand) : Option Hand := some a
noncomputable def laws_toHandS_l3 (a : List Hand) : ((List Hand) × Int) → Option (((List Hand) × Int) ⊕ (List Hand)) := fun (out, i) => bif (decide (i < ln a)) then nd (inb a i) <| (laws_toHand (gt a i)).bind fun r => nd (inb out i) <| some (.inl (out.set i.toNat r, w64 (i + 1))) else some (.inr out)
noncomputable def laws_toHandS (a : List Hand) : Option (List Hand) := nd (mkB (ln a) 40) <| (run (laws_toHandS_l3 a) (List.replicate (ln a).toNat (⟨0, 0, 0, 0, 0⟩ : Hand), 0)).bind fun b => some b
noncomputable def laws_toEntry (a : Entry) : Option Entry := some a
noncomputable def laws_toEntryS_l3 (a : List Entry) : ((List Entry) × Int) → Option (((List Entry) × Int) ⊕ (List Entry)) := fun (out, i) => bif (decide (i < ln a)) then nd (inb a i) <| (laws_toEntry (gt a i)).bind fun r => nd (inb out i) <| some (.inl (out.set i.toNat r, w64 (i + 1))) else some (.inr out)
noncomputable def laws_toEntryS (a : List Entry) : Option (List Entry) := nd (mkB (ln a) 32) <| (run (laws_toEntryS_l3 a) (List.replicate (ln a).toNat (⟨0, 0, 0, 0⟩ : Entry), 0)).bind fun b => some b
noncomputable def laws_toHouse (a : House) : Option House := (laws_toFindS a.Finds).bind fun r => (laws_toSecretS a.Secrets).bind fun r2 => (laws_toSlotS a.Slots).bind fun r3 => (laws_toClaimS a.Claims).bind fun r4 => (laws_toTrialS a.Trials).bind fun r5 => (laws_toHandS a.Chain).bind fun r6 => (laws_toEntryS a.Book).bind fun r7 => some (⟨a.No, r, r2, r3, r4, r5, r6, r7, a.Now⟩ : House)
noncomputable def spec_ServedShare_l3 (vh : House) : (Int × Int) → Option ((Int × Int) ⊕ Int) := fun (vn, i) => bif (decide (i < ln vh.Claims)) then nd (inb vh.Claims i) <| (bif (decide ((gt vh.Claims i).State = 3)) then some (.inl (w64 (vn + 1), w64 (i + 1))) else some (.inl (vn, w64 (i + 1)))) else some (.inr vn)
noncomputable def spec_ServedShare (vh : House) : Option Int := (run (spec_ServedShare_l3 vh) (0, 0)).bind fun b => (bif (decide (ln vh.Finds = 0)) then some 0 else nd (!decide (ln vh.Finds = 0)) <| some (w64 ((w64 (100 * b)).tdiv (ln vh.Finds))))
noncomputable def impl_ServedShare_l5 (vh : House) (t11 : List Claim) (t12 : Int) : (Int × Int) → Option ((Int × Int) ⊕ Int) := fun (vn, t13) => bif (decide (t13 < t12)) then nd (inb t11 t13) <| (bif (decide ((gt t11 t13).State = 3)) then some (.inl (w64 (vn + 1), w64 (t13 + 1))) else some (.inl (vn, w64 (t13 + 1)))) else some (.inr vn)
noncomputable def impl_ServedShare (vh : House) : Option Int := bif (decide (ln vh.Finds = 0)) then some 0 else (run (impl_ServedShare_l5 vh vh.Claims (ln vh.Claims)) (0, 0)).bind fun b => nd (!decide (ln vh.Finds = 0)) <| some (w64 ((w64 (100 * b)).tdiv (ln vh.Finds)))
noncomputable def laws_eqThing (a : Thing) (b : Thing) : Option Bool := bif (!decide (a.Id = b.Id)) then some false else (bif (!decide (a.Kind = b.Kind)) then some false else (bif (!decide (a.Colour = b.Colour)) then some false else (bif (!decide (a.Size = b.Size)) then some false else (bif (!decide (a.Worth = b.Worth)) then some false else some true))))
noncomputable def laws_eqFind (a : Find) (b : Find) : Option Bool := (laws_eqThing a.Thing b.Thing).bind fun r => (bif (!r) then some false else (bif (!decide (a.Place = b.Place)) then some false else (bif (!decide (a.At = b.At)) then some false else (bif (!decide (a.Finder = b.Finder)) then some false else some true))))
noncomputable def laws_eqFindS_l4 (a : List Find) (b : List Find) : Int → Option (Int ⊕ (Fl Bool Unit)) := fun i => bif (decide (i < ln a)) then nd (inb a i) <| nd (inb b i) <| (laws_eqFind (gt a i) (gt b i)).bind fun r => (bif (!r) then some (.inr (.ret false)) else some (.inl (w64 (i + 1)))) else some (.inr (.brk ()))
noncomputable def laws_eqFindS (a : List Find) (b : List Find) : Option Bool := bif (!decide (ln a = ln b)) then some false else (run (laws_eqFindS_l4 a b) 0).bind (evO (fun r => some r) fun b2 => some true)
noncomputable def laws_eqMark (a : Mark) (b : Mark) : Option Bool := bif (!decide (a.Question = b.Question)) then some false else (bif (!decide (a.Answer = b.Answer)) then some false else some true)
noncomputable def laws_eqMarkS_l4 (a : List Mark) (b : List Mark) : Int → Option (Int ⊕ (Fl Bool Unit)) := fun i => bif (decide (i < ln a)) then nd (inb a i) <| nd (inb b i) <| (laws_eqMark (gt a i) (gt b i)).bind fun r => (bif (!r) then some (.inr (.ret false)) else some (.inl (w64 (i + 1)))) else some (.inr (.brk ()))
noncomputable def laws_eqMarkS (a : List Mark) (b : List Mark) : Option Bool := bif (!decide (ln a = ln b)) then some false else (run (laws_eqMarkS_l4 a b) 0).bind (evO (fun r => some r) fun b2 => some true)
noncomputable def laws_eqSecret (a : Secret) (b : Secret) : Option Bool := bif (!decide (a.Thing = b.Thing)) then some false else (laws_eqMarkS a.Marks b.Marks).bind fun r => (bif (!r) then some false else (bif (!decide (a.Salt = b.Salt)) then some false else some true))
noncomputable def laws_eqSecretS_l4 (a : List Secret) (b : List Secret) : Int → Option (Int ⊕ (Fl Bool Unit)) := fun i => bif (decide (i < ln a)) then nd (inb a i) <| nd (inb b i) <| (laws_eqSecret (gt a i) (gt b i)).bind fun r => (bif (!r) then some (.inr (.ret false)) else some (.inl (w64 (i + 1)))) else some (.inr (.brk ()))
noncomputable def laws_eqSecretS (a : List Secret) (b : List Secret) : Option Bool := bif (!decide (ln a = ln b)) then some false else (run (laws_eqSecretS_l4 a b) 0).bind (evO (fun r => some r) fun b2 => some true)
noncomputable def laws_eqSlot (a : Slot) (b : Slot) : Option Bool := bif (!decide (a.Id = b.Id)) then some false else (bif (!decide (a.Size = b.Size)) then some false else (bif (!decide (a.Thing = b.Thing)) then some false else some true))
noncomputable def laws_eqSlotS_l4 (a : List Slot) (b : List Slot) : Int → Option (Int ⊕ (Fl Bool Unit)) := fun i => bif (decide (i < ln a)) then nd (inb a i) <| nd (inb b i) <| (laws_eqSlot (gt a i) (gt b i)).bind fun r => (bif (!r) then some (.inr (.ret false)) else some (.inl (w64 (i + 1)))) else some (.inr (.brk ()))
noncomputable def laws_eqSlotS (a : List Slot) (b : List Slot) : Option Bool := bif (!decide (ln a = ln b)) then some false else (run (laws_eqSlotS_l4 a b) 0).bind (evO (fun r => some r) fun b2 => some true)
noncomputable def laws_eqClaim (a : Claim) (b : Claim) : Option Bool := bif (!decide (a.Id = b.Id)) then some false else (bif (!decide (a.Who = b.Who)) then some false else (bif (!decide (a.Thing = b.Thing)) then some false else (bif (!decide (a.At = b.At)) then some false else (bif (!decide (a.State = b.State)) then some false else some true))))
noncomputable def laws_eqClaimS_l4 (a : List Claim) (b : List Claim) : Int → Option (Int ⊕ (Fl Bool Unit)) := fun i => bif (decide (i < ln a)) then nd (inb a i) <| nd (inb b i) <| (laws_eqClaim (gt a i) (gt b i)).bind fun r => (bif (!r) then some (.inr (.ret false)) else some (.inl (w64 (i + 1)))) else some (.inr (.brk ()))
noncomputable def laws_eqClaimS (a : List Claim) (b : List Claim) : Option Bool := bif (!decide (ln a = ln b)) then some false else (run (laws_eqClaimS_l4 a b) 0).bind (evO (fun r => some r) fun b2 => some true)
noncomputable def laws_eqTrial (a : Trial) (b : Trial) : Option Bool := bif (!decide (a.Claim = b.Claim)) then some false else (bif (!decide (a.Asked = b.Asked)) then some false else (bif (!decide (a.Right = b.Right)) then some false else (bif (!decide (a.Wrong = b.Wrong)) then some false else some true)))
noncomputable def laws_eqTrialS_l4 (a : List Trial) (b : List Trial) : Int → Option (Int ⊕ (Fl Bool Unit)) := fun i => bif (decide (i < ln a)) then nd (inb a i) <| nd (inb b i) <| (laws_eqTrial (gt a i) (gt b i)).bind fun r => (bif (!r) then some (.inr (.ret false)) else some (.inl (w64 (i + 1)))) else some (.inr (.brk ()))
noncomputable def laws_eqTrialS (a : List Trial) (b : List Trial) : Option Bool := bif (!decide (ln a = ln b)) then some false else (run (laws_eqTrialS_l4 a b) 0).bind (evO (fun r => some r) fun b2 => some true)
noncomputable def laws_eqHand (a : Hand) (b : Hand) : Option Bool := bif (!decide (a.Thing = b.Thing)) then some false else (bif (!decide (a.Holder = b.Holder)) then some false else (bif (!decide (a.Who = b.Who)) then some false else (bif (!decide (a.At = b.At)) then some false else (bif (!decide (a.Seal = b.Seal)) then some false else some true))))
noncomputable def laws_eqHandS_l4 (a : List Hand) (b : List Hand) : Int → Option (Int ⊕ (Fl Bool Unit)) := fun i => bif (decide (i < ln a)) then nd (inb a i) <| nd (inb b i) <| (laws_eqHand (gt a i) (gt b i)).bind fun r => (bif (!r) then some (.inr (.ret false)) else some (.inl (w64 (i + 1)))) else some (.inr (.brk ()))
noncomputable def laws_eqHandS (a : List Hand) (b : List Hand) : Option Bool := bif (!decide (ln a = ln b)) then some false else (run (laws_eqHandS_l4 a b) 0).bind (evO (fun r => some r) fun b2 => some true)
noncomputable def laws_eqEntry (a : Entry) (b : Entry) : Option Bool := bif (!decide (a.From = b.From)) then some false else (bif (!decide (a.To = b.To)) then some false else (bif (!decide (a.Cents = b.Cents)) then some false else (bif (!decide (a.At = b.At)) then some false else some true)))
noncomputable def laws_eqEntryS_l4 (a : List Entry) (b : List Entry) : Int → Option (Int ⊕ (Fl Bool Unit)) := fun i => bif (decide (i < ln a)) then nd (inb a i) <| nd (inb b i) <| (laws_eqEntry (gt a i) (gt b i)).bind fun r => (bif (!r) then some (.inr (.ret false)) else some (.inl (w64 (i + 1)))) else some (.inr (.brk ()))
noncomputable def laws_eqEntryS (a : List Entry) (b : List Entry) : Option Bool := bif (!decide (ln a = ln b)) then some false else (run (laws_eqEntryS_l4 a b) 0).bind (evO (fun r => some r) fun b2 => some true)
noncomputable def laws_eqHouse (a : House) (b : House) : Option Bool := bif (!decide (a.No = b.No)) then some false else (laws_eqFindS a.Finds b.Finds).bind fun r => (bif (!r) then some false else (laws_eqSecretS a.Secrets b.Secrets).bind fun r2 => (bif (!r2) then some false else (laws_eqSlotS a.Slots b.Slots).bind fun r3 => (bif (!r3) then some false else (laws_eqClaimS a.Claims b.Claims).bind fun r4 => (bif (!r4) then some false else (laws_eqTrialS a.Trials b.Trials).bind fun r5 => (bif (!r5) then some false else (laws_eqHandS a.Chain b.Chain).bind fun r6 => (bif (!r6) then some false else (laws_eqEntryS a.Book b.Book).bind fun r7 => (bif (!r7) then some false else (bif (!decide (a.Now = b.Now)) then some false else some true))))))))
noncomputable def laws_FnExactServedShare (aH : House) : Option Bool := (laws_szHouse aH 1048576).bind fun r => (bif (decide (r < 0)) then some true else (laws_toHouse aH).bind fun r2 => (spec_ServedShare r2).bind fun r3 => (laws_toHouse aH).bind fun r4 => (impl_ServedShare r4).bind fun r5 => (bif (!decide (r5 = r3)) then some false else (laws_toHouse aH).bind fun r6 => (laws_eqHouse r4 r6).bind fun r7 => (bif (!r7) then some false else some true)))
noncomputable def spec_TrialOf_l2 (claim : Int) (vh : House) (t4 : Trial) : Int → Option (Int ⊕ (Fl (Trial × Bool) Unit)) := fun i => bif (decide (i < ln vh.Trials)) then nd (inb vh.Trials i) <| (bif (decide ((gt vh.Trials i).Claim = claim)) then some (.inr (.ret (gt vh.Trials i, true))) else some (.inl (w64 (i + 1)))) else some (.inr (.brk ()))
noncomputable def spec_TrialOf (vh : House) (claim : Int) : Option (Trial × Bool) := (run (spec_TrialOf_l2 claim vh (⟨0, 0, 0, 0⟩ : Trial)) 0).bind (evO (fun r => some (r.1, r.2)) fun b => some ((⟨0, 0, 0, 0⟩ : Trial), false))
noncomputable def spec_FindThing_l2 (l : List Find) (id : Int) : Int → Option (Int ⊕ (Fl Int Unit)) := fun i => bif (decide (i < ln l)) then nd (inb l i) <| (bif (decide ((gt l i).Thing.Id = id)) then some (.inr (.ret i)) else some (.inl (w64 (i + 1)))) else some (.inr (.brk ()))
noncomputable def spec_FindThing (l : List Find) (id : Int) : Option Int := (run (spec_FindThing_l2 l id) 0).bind (evO (fun r => some r) fun b => some (-1))
noncomputable def spec_l36Claimed_l2 (vh : House) (x : Hand) : Int → Option (Int ⊕ (Fl Bool Unit)) := fun i => bif (decide (i < ln vh.Claims)) then nd (inb vh.Claims i) <| (bif (decide ((gt vh.Claims i).State = 3)) then (bif (decide ((gt vh.Claims i).Thing = x.Thing)) then (bif (decide ((gt vh.Claims i).Who = x.Who)) then some (.inr (.ret true)) else some (.inl (w64 (i + 1)))) else some (.inl (w64 (i + 1)))) else some (.inl (w64 (i + 1)))) else some (.inr (.brk ()))
noncomputable def spec_l36Claimed (vh : House) (x : Hand) : Option Bool := (run (spec_l36Claimed_l2 vh x) 0).bind (evO (fun r => some r) fun b => some false)
noncomputable def spec_AreOwners_l2 (vh : House) : Int → Option (Int ⊕ (Fl Bool Unit)) := fun i => bif (decide (i < ln vh.Chain)) then nd (inb vh.Chain i) <| (spec_FindThing vh.Finds (gt vh.Chain i).Thing).bind fun r => (bif (decide ((gt vh.Chain i).Holder = 3)) then (spec_l36Claimed vh (gt vh.Chain i)).bind fun r2 => (bif (!r2) then (bif (decide (r < 0)) then some (.inr (.ret false)) else nd (inb vh.Finds r) <| (bif (!decide ((gt vh.Finds r).Finder = (gt vh.Chain i).Who)) then some (.inr (.ret false)) else some (.inl (w64 (i + 1))))) else some (.inl (w64 (i + 1)))) else some (.inl (w64 (i + 1)))) else some (.inr (.brk ()))
noncomputable def spec_AreOwners (vh : House) : Option Bool := (run (spec_AreOwners_l2 vh) 0).bind (evO (fun r => some r) fun b => some true)
noncomputable def spec_l31Marks_l4 (a : List Mark) (b : List Mark) : Int → Option (Int ⊕ (Fl Bool Unit)) := fun i => bif (decide (i < ln a)) then nd (inb a i) <| nd (inb b i) <| (bif (!(eq_Mark (gt a i) (gt b i))) then some (.inr (.ret false)) else some (.inl (w64 (i + 1)))) else some (.inr (.brk ()))
noncomputable def spec_l31Marks (a : List Mark) (b : List Mark) : Option Bool := bif (!decide (ln a = ln b)) then some false else (run (spec_l31Marks_l4 a b) 0).bind (evO (fun r => some r) fun b2 => some true)
noncomputable def spec_EqualSecrets_l4 (a : List Secret) (b : List Secret) : Int → Option (Int ⊕ (Fl Bool Unit)) := fun i => bif (decide (i < ln a)) then nd (inb a i) <| nd (inb b i) <| (bif (!decide ((gt a i).Thing = (gt b i).Thing)) then some (.inr (.ret false)) else (bif (!decide ((gt a i).Salt = (gt b i).Salt)) then some (.inr (.ret false)) else (spec_l31Marks (gt a i).Marks (gt b i).Marks).bind fun r => (bif (!r) then some (.inr (.ret false)) else some (.inl (w64 (i + 1)))))) else some (.inr (.brk ()))
noncomputable def spec_EqualSecrets (a : List Secret) (b : List Secret) : Option Bool := bif (!decide (ln a = ln b)) then some false else (run (spec_EqualSecrets_l4 a b) 0).bind (evO (fun r => some r) fun b2 => some true)
noncomputable def spec_l33Lists_l4 (t2 : House) (t3 : House) : Int → Option (Int ⊕ (Fl Bool Unit)) := fun t5 => bif (decide (t5 < ln t2.Finds)) then nd (inb t2.Finds t5) <| nd (inb t3.Finds t5) <| (bif (!(eq_Find (gt t2.Finds t5) (gt t3.Finds t5))) then some (.inr (.ret false)) else some (.inl (w64 (t5 + 1)))) else some (.inr (.brk ()))
noncomputable def spec_l33Lists_l9 (t2 : House) (t3 : House) : Int → Option (Int ⊕ (Fl Bool Unit)) := fun t6 => bif (decide (t6 < ln t2.Slots)) then nd (inb t2.Slots t6) <| nd (inb t3.Slots t6) <| (bif (!(eq_Slot (gt t2.Slots t6) (gt t3.Slots t6))) then some (.inr (.ret false)) else some (.inl (w64 (t6 + 1)))) else some (.inr (.brk ()))
noncomputable def spec_l33Lists_l14 (t2 : House) (t3 : House) : Int → Option (Int ⊕ (Fl Bool Unit)) := fun t7 => bif (decide (t7 < ln t2.Claims)) then nd (inb t2.Claims t7) <| nd (inb t3.Claims t7) <| (bif (!(eq_Claim (gt t2.Claims t7) (gt t3.Claims t7))) then some (.inr (.ret false)) else some (.inl (w64 (t7 + 1)))) else some (.inr (.brk ()))
noncomputable def spec_l33Lists_l19 (t2 : House) (t3 : House) : Int → Option (Int ⊕ (Fl Bool Unit)) := fun t8 => bif (decide (t8 < ln t2.Trials)) then nd (inb t2.Trials t8) <| nd (inb t3.Trials t8) <| (bif (!(eq_Trial (gt t2.Trials t8) (gt t3.Trials t8))) then some (.inr (.ret false)) else some (.inl (w64 (t8 + 1)))) else some (.inr (.brk ()))
noncomputable def spec_l33Lists (a : House) (a2 : House) : Option Bool := bif ((!decide (ln a.Finds = ln a2.Finds)) || ((!decide (ln a.Slots = ln a2.Slots)) || ((!decide (ln a.Claims = ln a2.Claims)) || (!decide (ln a.Trials = ln a2.Trials))))) then some false else (run (spec_l33Lists_l4 a a2) 0).bind (evO (fun r => some r) fun b => (run (spec_l33Lists_l9 a a2) 0).bind (evO (fun r2 => some r2) fun b2 => (run (spec_l33Lists_l14 a a2) 0).bind (evO (fun r3 => some r3) fun b3 => (run (spec_l33Lists_l19 a a2) 0).bind (evO (fun r4 => some r4) fun b4 => some true))))
noncomputable def spec_l33Chains_l4 (a : House) (b : House) : Int → Option (Int ⊕ (Fl Bool Unit)) := fun i => bif (decide (i < ln a.Chain)) then nd (inb a.Chain i) <| nd (inb b.Chain i) <| (bif (!(eq_Hand (gt a.Chain i) (gt b.Chain i))) then some (.inr (.ret false)) else some (.inl (w64 (i + 1)))) else some (.inr (.brk ()))
noncomputable def spec_l33Chains_l9 (a : House) (b : House) : Int → Option (Int ⊕ (Fl Bool Unit)) := fun i => bif (decide (i < ln a.Book)) then nd (inb a.Book i) <| nd (inb b.Book i) <| (bif (!(eq_Entry (gt a.Book i) (gt b.Book i))) then some (.inr (.ret false)) else some (.inl (w64 (i + 1)))) else some (.inr (.brk ()))
noncomputable def spec_l33Chains (a : House) (b : House) : Option Bool := bif ((!decide (ln a.Chain = ln b.Chain)) || (!decide (ln a.Book = ln b.Book))) then some false else (run (spec_l33Chains_l4 a b) 0).bind (evO (fun r => some r) fun b2 => (run (spec_l33Chains_l9 a b) 0).bind (evO (fun r2 => some r2) fun b3 => some true))
noncomputable def spec_EqualHouses (a : House) (b : House) : Option Bool := (bif (decide (a.No = b.No)) then (bif (decide (a.Now = b.Now)) then (spec_EqualSecrets a.Secrets b.Secrets).bind fun r => (bif r then (spec_l33Lists a b).bind fun r2 => (bif r2 then (spec_l33Chains a b).bind fun r3 => some r3 else some false) else some false) else some false) else some false).bind fun b2 => some b2
noncomputable def slices_Equal_Find_l4 (s1 : List Find) (s2 : List Find) (t12 : Int) : Int → Option (Int ⊕ (Fl Bool Unit)) := fun t13 => bif (decide (t13 < t12)) then nd (inb s1 t13) <| nd (inb s2 t13) <| (bif (!(eq_Find (gt s1 t13) (gt s2 t13))) then some (.inr (.ret false)) else some (.inl (w64 (t13 + 1)))) else some (.inr (.brk ()))
noncomputable def slices_Equal_Find (s1 : List Find) (s2 : List Find) : Option Bool := bif (!decide (ln s1 = ln s2)) then some false else (run (slices_Equal_Find_l4 s1 s2 (ln s1)) 0).bind (evO (fun r => some r) fun b => some true)
noncomputable def spec_l1In (x : Int) (least : Int) (most : Int) : Option Bool := some ((decide (least ≤ x)) && (decide (x ≤ most)))
noncomputable def spec_IsThing (x : Thing) : Option Bool := ((spec_l1In x.Id 1 999).bind fun r => (bif r then (spec_l1In x.Kind 1 8).bind fun r2 => (bif r2 then (spec_l1In x.Colour 0 7).bind fun r3 => (bif r3 then (spec_l1In x.Size 1 50).bind fun r4 => (bif r4 then (spec_l1In x.Worth 0 10000000).bind fun r5 => some r5 else some false) else some false) else some false) else some false)).bind fun b => some b
noncomputable def spec_IsFind (f : Find) : Option Bool := ((spec_IsThing f.Thing).bind fun r => (bif r then (spec_l1In f.Place 1 30).bind fun r2 => (bif r2 then (spec_l1In f.At 0 100000).bind fun r3 => (bif r3 then (spec_l1In f.Finder 0 999).bind fun r4 => some r4 else some false) else some false) else some false)).bind fun b => some b
noncomputable def spec_KeepDays (kind : Int) : Option Int := (spec_l1In kind 1 8).bind fun r => (bif (!r) then some 0 else (bif (decide (kind = 7)) then some 1 else (bif ((decide (kind = 4)) || (decide (kind = 5))) then some 180 else some 90)))
noncomputable def spec_DueHour (f : Find) : Option Int := (spec_IsFind f).bind fun r => (bif (!r) then some (-1) else (spec_KeepDays f.Thing.Kind).bind fun r2 => some (w64 (f.At + (w64 (24 * r2)))))
noncomputable def spec_IsDue (f : Find) (now : Int) : Option Bool := ((spec_IsFind f).bind fun r => (bif r then (spec_DueHour f).bind fun r2 => some (decide (r2 ≤ now)) else some false)).bind fun b => some b
noncomputable def spec_IsNeverEarly_l2 (vh : House) : Int → Option (Int ⊕ (Fl Bool Unit)) := fun i => bif (decide (i < ln vh.Chain)) then nd (inb vh.Chain i) <| (spec_FindThing vh.Finds (gt vh.Chain i).Thing).bind fun r => (bif (decide ((gt vh.Chain i).Holder ≤ 2)) then some (.inl (w64 (i + 1))) else (bif (decide ((gt vh.Chain i).Holder = 3)) then (spec_l36Claimed vh (gt vh.Chain i)).bind fun r2 => (bif r2 then some (.inl (w64 (i + 1))) else (bif (decide (r < 0)) then some (.inr (.ret false)) else nd (inb vh.Finds r) <| (spec_IsDue (gt vh.Finds r) (gt vh.Chain i).At).bind fun r3 => (bif (!r3) then some (.inr (.ret false)) else some (.inl (w64 (i + 1)))))) else (bif (decide (r < 0)) then some (.inr (.ret false)) else nd (inb vh.Finds r) <| (spec_IsDue (gt vh.Finds r) (gt vh.Chain i).At).bind fun r4 => (bif (!r4) then some (.inr (.ret false)) else some (.inl (w64 (i + 1))))))) else some (.inr (.brk ()))
noncomputable def spec_IsNeverEarly (vh : House) : Option Bool := (run (spec_IsNeverEarly_l2 vh) 0).bind (evO (fun r => some r) fun b => some true)
noncomputable def laws_eqBid (a : Bid) (b : Bid) : Option Bool := bif (!decide (a.Who = b.Who)) then some false else (bif (!decide (a.Cents = b.Cents)) then some false else (bif (!decide (a.Seal = b.Seal)) then some false else some true))
noncomputable def laws_eqBidS_l4 (a : List Bid) (b : List Bid) : Int → Option (Int ⊕ (Fl Bool Unit)) := fun i => bif (decide (i < ln a)) then nd (inb a i) <| nd (inb b i) <| (laws_eqBid (gt a i) (gt b i)).bind fun r => (bif (!r) then some (.inr (.ret false)) else some (.inl (w64 (i + 1)))) else some (.inr (.brk ()))
noncomputable def laws_eqBidS (a : List Bid) (b : List Bid) : Option Bool := bif (!decide (ln a = ln b)) then some false else (run (laws_eqBidS_l4 a b) 0).bind (evO (fun r => some r) fun b2 => some true)
noncomputable def laws_eqEvent (a : Event) (b : Event) : Option Bool := bif (!decide (a.Kind = b.Kind)) then some false else (laws_eqFind a.Find b.Find).bind fun r => (bif (!r) then some false else (laws_eqMarkS a.Marks b.Marks).bind fun r2 => (bif (!r2) then some false else (bif (!decide (a.Id = b.Id)) then some false else (bif (!decide (a.Who = b.Who)) then some false else (bif (!decide (a.N = b.N)) then some false else (laws_eqBidS a.Bids b.Bids).bind fun r3 => (bif (!r3) then some false else some true))))))
noncomputable def laws_eqEventS_l4 (a : List Event) (b : List Event) : Int → Option (Int ⊕ (Fl Bool Unit)) := fun i => bif (decide (i < ln a)) then nd (inb a i) <| nd (inb b i) <| (laws_eqEvent (gt a i) (gt b i)).bind fun r => (bif (!r) then some (.inr (.ret false)) else some (.inl (w64 (i + 1)))) else some (.inr (.brk ()))
noncomputable def laws_eqEventS (a : List Event) (b : List Event) : Option Bool := bif (!decide (ln a = ln b)) then some false else (run (laws_eqEventS_l4 a b) 0).bind (evO (fun r => some r) fun b2 => some true)
noncomputable def laws_heldMarkS_l2 (a : List Mark) : (Int × Int) → Option ((Int × Int) ⊕ (Fl Int Int)) := fun (k, i) => bif (decide (i < ln a)) then nd (inb a i) <| (bif (!decide ((gt a i).Question = k)) then some (.inr (.ret (-1))) else (bif (!decide ((gt a i).Answer = w64 (k + 1))) then some (.inr (.ret (-1))) else some (.inl (w64 ((w64 (k + 1)) + 1), w64 (i + 1))))) else some (.inr (.brk k))
noncomputable def laws_heldMarkS (a : List Mark) (k : Int) : Option Int := (run (laws_heldMarkS_l2 a) (k, 0)).bind (evO (fun r => some r) fun b => some b)
noncomputable def laws_heldBidS_l2 (a : List Bid) : (Int × Int) → Option ((Int × Int) ⊕ (Fl Int Int)) := fun (k, i) => bif (decide (i < ln a)) then nd (inb a i) <| (bif (!decide ((gt a i).Who = k)) then some (.inr (.ret (-1))) else (bif (!decide ((gt a i).Cents = w64 (k + 1))) then some (.inr (.ret (-1))) else (bif (!decide ((gt a i).Seal = w64 ((w64 (k + 1)) + 1))) then some (.inr (.ret (-1))) else some (.inl (w64 ((w64 ((w64 (k + 1)) + 1)) + 1), w64 (i + 1)))))) else some (.inr (.brk k))
noncomputable def laws_heldBidS (a : List Bid) (k : Int) : Option Int := (run (laws_heldBidS_l2 a) (k, 0)).bind (evO (fun r => some r) fun b => some b)
noncomputable def laws_heldEventS_l2 (a : List Event) : (Int × Int) → Option ((Int × Int) ⊕ (Fl Int Int)) := fun (t1, t5) => bif (decide (t5 < ln a)) then nd (inb a t5) <| (bif (!decide ((gt a t5).Kind = t1)) then some (.inr (.ret (-1))) else (bif (!decide ((gt a t5).Find.Thing.Id = w64 (t1 + 1))) then some (.inr (.ret (-1))) else (bif (!decide ((gt a t5).Find.Thing.Kind = w64 ((w64 (t1 + 1)) + 1))) then some (.inr (.ret (-1))) else (bif (!decide ((gt a t5).Find.Thing.Colour = w64 ((w64 ((w64 (t1 + 1)) + 1)) + 1))) then some (.inr (.ret (-1))) else (bif (!decide ((gt a t5).Find.Thing.Size = w64 ((w64 ((w64 ((w64 (t1 + 1)) + 1)) + 1)) + 1))) then some (.inr (.ret (-1))) else (bif (!decide ((gt a t5).Find.Thing.Worth = w64 ((w64 ((w64 ((w64 ((w64 (t1 + 1)) + 1)) + 1)) + 1)) + 1))) then some (.inr (.ret (-1))) else (bif (!decide ((gt a t5).Find.Place = w64 ((w64 ((w64 ((w64 ((w64 ((w64 (t1 + 1)) + 1)) + 1)) + 1)) + 1)) + 1))) then some (.inr (.ret (-1))) else (bif (!decide ((gt a t5).Find.At = w64 ((w64 ((w64 ((w64 ((w64 ((w64 ((w64 (t1 + 1)) + 1)) + 1)) + 1)) + 1)) + 1)) + 1))) then some (.inr (.ret (-1))) else (bif (!decide ((gt a t5).Find.Finder = w64 ((w64 ((w64 ((w64 ((w64 ((w64 ((w64 ((w64 (t1 + 1)) + 1)) + 1)) + 1)) + 1)) + 1)) + 1)) + 1))) then some (.inr (.ret (-1))) else (laws_heldMarkS (gt a t5).Marks (w64 ((w64 ((w64 ((w64 ((w64 ((w64 ((w64 ((w64 ((w64 (t1 + 1)) + 1)) + 1)) + 1)) + 1)) + 1)) + 1)) + 1)) + 1))).bind fun r => (bif (decide (r < 0)) then some (.inr (.ret (-1))) else (bif (!decide ((gt a t5).Id = r)) then some (.inr (.ret (-1))) else (bif (!decide ((gt a t5).Who = w64 (r + 1))) then some (.inr (.ret (-1))) else (bif (!decide ((gt a t5).N = w64 ((w64 (r + 1)) + 1))) then some (.inr (.ret (-1))) else (laws_heldBidS (gt a t5).Bids (w64 ((w64 ((w64 (r + 1)) + 1)) + 1))).bind fun r2 => (bif (decide (r2 < 0)) then some (.inr (.ret (-1))) else some (.inl (r2, w64 (t5 + 1))))))))))))))))) else some (.inr (.brk t1))
noncomputable def laws_heldEventS (a : List Event) (a2 : Int) : Option Int := (run (laws_heldEventS_l2 a) (a2, 0)).bind (evO (fun r => some r) fun b => some b)
noncomputable def impl_InRange (vn : Int) (low : Int) (high : Int) : Option Bool := some ((decide (low ≤ vn)) && (decide (vn ≤ high)))
noncomputable def impl_IsThing (x : Thing) : Option Bool := ((impl_InRange x.Id 1 999).bind fun r => (bif r then (impl_InRange x.Kind 1 8).bind fun r2 => (bif r2 then (impl_InRange x.Colour 0 7).bind fun r3 => (bif r3 then (impl_InRange x.Size 1 50).bind fun r4 => (bif r4 then (impl_InRange x.Worth 0 10000000).bind fun r5 => some r5 else some false) else some false) else some false) else some false)).bind fun b => some b
noncomputable def impl_IsFind (f : Find) : Option Bool := ((impl_IsThing f.Thing).bind fun r => (bif r then (impl_InRange f.Place 1 30).bind fun r2 => (bif r2 then (impl_InRange f.At 0 100000).bind fun r3 => (bif r3 then (impl_InRange f.Finder 0 999).bind fun r4 => some r4 else some false) else some false) else some false)).bind fun b => some b
noncomputable def impl_KeepDays (kind : Int) : Option Int := bif (decide (kind = 7)) then some 1 else (bif (decide (kind = 4)) then (bif (decide (kind = 4)) then some 180 else (bif (decide (kind = 1)) then (bif (decide (kind = 1)) then some 90 else some 0) else (bif (decide (kind = 2)) then (bif (decide (kind = 2)) then some 90 else some 0) else (bif (decide (kind = 3)) then (bif (decide (kind = 3)) then some 90 else some 0) else (bif (decide (kind = 6)) then (bif (decide (kind = 6)) then some 90 else some 0) else (bif (decide (kind = 8)) then some 90 else some 0)))))) else (bif (decide (kind = 5)) then some 180 else (bif (decide (kind = 1)) then (bif (decide (kind = 1)) then some 90 else some 0) else (bif (decide (kind = 2)) then (bif (decide (kind = 2)) then some 90 else some 0) else (bif (decide (kind = 3)) then (bif (decide (kind = 3)) then some 90 else some 0) else (bif (decide (kind = 6)) then (bif (decide (kind = 6)) then some 90 else some 0) else (bif (decide (kind = 8)) then some 90 else some 0)))))))
noncomputable def impl_DueHour (f : Find) : Option Int := (impl_IsFind f).bind fun r => (bif (!r) then some (-1) else (impl_KeepDays f.Thing.Kind).bind fun r2 => some (w64 (f.At + (w64 (24 * r2)))))
noncomputable def impl_IsDue (f : Find) (now : Int) : Option Bool := ((impl_IsFind f).bind fun r => (bif r then (impl_DueHour f).bind fun r2 => some (decide (r2 ≤ now)) else some false)).bind fun b => some b
noncomputable def spec_AreEntries_l2 (l : List Entry) : Int → Option (Int ⊕ (Fl Bool Unit)) := fun i => bif (decide (i < ln l)) then nd (inb l i) <| (spec_l1In (gt l i).From 0 999).bind fun r => (bif (!r) then some (.inr (.ret false)) else (spec_l1In (gt l i).To 0 999).bind fun r2 => (bif (!r2) then some (.inr (.ret false)) else (bif (decide ((gt l i).From = (gt l i).To)) then some (.inr (.ret false)) else (spec_l1In (gt l i).Cents 1 10000000).bind fun r3 => (bif (!r3) then some (.inr (.ret false)) else (spec_l1In (gt l i).At 0 100000).bind fun r4 => (bif (!r4) then some (.inr (.ret false)) else (bif (decide (0 < i)) then nd (inb l (w64 (i - 1))) <| (bif (decide ((gt l i).At < (gt l (w64 (i - 1))).At)) then some (.inr (.ret false)) else some (.inl (w64 (i + 1)))) else some (.inl (w64 (i + 1))))))))) else some (.inr (.brk ()))
noncomputable def spec_AreEntries (l : List Entry) : Option Bool := (run (spec_AreEntries_l2 l) 0).bind (evO (fun r => some r) fun b => some (decide (ln l ≤ 100)))
noncomputable def spec_Balance_l3 (l : List Entry) (account : Int) : (Int × Int) → Option ((Int × Int) ⊕ Int) := fun (vn, i) => bif (decide (i < ln l)) then (spec_AreEntries l).bind fun r => (bif r then nd (inb l i) <| (bif (decide ((gt l i).To = account)) then (bif (decide ((gt l i).From = account)) then some (.inl (w64 ((w64 (vn + (gt l i).Cents)) - (gt l i).Cents), w64 (i + 1))) else some (.inl (w64 (vn + (gt l i).Cents), w64 (i + 1)))) else (bif (decide ((gt l i).From = account)) then some (.inl (w64 (vn - (gt l i).Cents), w64 (i + 1))) else some (.inl (vn, w64 (i + 1))))) else some (.inr vn)) else some (.inr vn)
noncomputable def spec_Balance (l : List Entry) (account : Int) : Option Int := (run (spec_Balance_l3 l account) (0, 0)).bind fun b => some b
noncomputable def impl_AreEntries_l4 (l : List Entry) (t8 : List Entry) (t9 : Int) : Int → Option (Int ⊕ (Fl Bool Unit)) := fun t10 => bif (decide (t10 < t9)) then nd (inb t8 t10) <| (impl_InRange (gt t8 t10).From 0 999).bind fun r => (bif (!r) then some (.inr (.ret false)) else (impl_InRange (gt t8 t10).To 0 999).bind fun r2 => (bif (!r2) then some (.inr (.ret false)) else (bif (decide ((gt t8 t10).From = (gt t8 t10).To)) then some (.inr (.ret false)) else (impl_InRange (gt t8 t10).Cents 1 10000000).bind fun r3 => (bif (!r3) then some (.inr (.ret false)) else (impl_InRange (gt t8 t10).At 0 100000).bind fun r4 => (bif (!r4) then some (.inr (.ret false)) else (bif (decide (0 < t10)) then nd (inb l (w64 (t10 - 1))) <| (bif (decide ((gt t8 t10).At < (gt l (w64 (t10 - 1))).At)) then some (.inr (.ret false)) else some (.inl (w64 (t10 + 1)))) else some (.inl (w64 (t10 + 1))))))))) else some (.inr (.brk ()))
noncomputable def impl_AreEntries (l : List Entry) : Option Bool := bif (decide (100 < ln l)) then some false else (run (impl_AreEntries_l4 l l (ln l)) 0).bind (evO (fun r => some r) fun b => some true)
noncomputable def impl_totalTo_l3 (account : Int) (t8 : List Entry) (t9 : Int) : (Int × Int) → Option ((Int × Int) ⊕ Int) := fun (vn, t10) => bif (decide (t10 < t9)) then nd (inb t8 t10) <| (bif (decide ((gt t8 t10).To = account)) then some (.inl (w64 (vn + (gt t8 t10).Cents), w64 (t10 + 1))) else some (.inl (vn, w64 (t10 + 1)))) else some (.inr vn)
noncomputable def impl_totalTo (l : List Entry) (account : Int) : Option Int := (run (impl_totalTo_l3 account l (ln l)) (0, 0)).bind fun b => some b
noncomputable def impl_TotalPaid_l5 (account : Int) (t12 : List Entry) (t13 : Int) : (Int × Int) → Option ((Int × Int) ⊕ Int) := fun (vn, t14) => bif (decide (t14 < t13)) then nd (inb t12 t14) <| (bif (decide ((gt t12 t14).From = account)) then some (.inl (w64 (vn + (gt t12 t14).Cents), w64 (t14 + 1))) else some (.inl (vn, w64 (t14 + 1)))) else some (.inr vn)
noncomputable def impl_TotalPaid (l : List Entry) (account : Int) : Option Int := (impl_AreEntries l).bind fun r => (bif (!r) then some 0 else (run (impl_TotalPaid_l5 account l (ln l)) (0, 0)).bind fun b => some b)
noncomputable def impl_Balance (l : List Entry) (account : Int) : Option Int := (impl_AreEntries l).bind fun r => (bif (!r) then some 0 else (impl_totalTo l account).bind fun r2 => (impl_TotalPaid l account).bind fun r3 => some (w64 (r2 - r3)))
noncomputable def slices_Equal_Mark_l4 (s1 : List Mark) (s2 : List Mark) (t12 : Int) : Int → Option (Int ⊕ (Fl Bool Unit)) := fun t13 => bif (decide (t13 < t12)) then nd (inb s1 t13) <| nd (inb s2 t13) <| (bif (!(eq_Mark (gt s1 t13) (gt s2 t13))) then some (.inr (.ret false)) else some (.inl (w64 (t13 + 1)))) else some (.inr (.brk ()))
noncomputable def slices_Equal_Mark (s1 : List Mark) (s2 : List Mark) : Option Bool := bif (!decide (ln s1 = ln s2)) then some false else (run (slices_Equal_Mark_l4 s1 s2 (ln s1)) 0).bind (evO (fun r => some r) fun b => some true)
noncomputable def impl_EqualSecrets_1 (x : Secret) (y : Secret) : Option Bool := (bif (decide (x.Thing = y.Thing)) then (bif (decide (x.Salt = y.Salt)) then (slices_Equal_Mark x.Marks y.Marks).bind fun r => some r else some false) else some false).bind fun b => some b
end Go.Proofs.Ytcpelionmmnogaa
