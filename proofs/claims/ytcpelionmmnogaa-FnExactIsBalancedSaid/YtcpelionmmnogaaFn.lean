/- The functions, typed. Definitions. No condition. -/
import Derived.Test.YtcpelionmmnogaaPw
namespace Go.Proofs.Ytcpelionmmnogaa
open Go
set_option linter.unusedVariables false
set_option linter.unusedSimpArgs false
set_option linter.defProp false
set_option maxRecDepth 100000
structure Thing where
  Id : Int
  Kind : Int
  Colour : Int
  Size : Int
  Worth : Int
instance : Inhabited Thing := ⟨⟨0, 0, 0, 0, 0⟩⟩
structure Find where
  Thing : Thing
  Place : Int
  At : Int
  Finder : Int
instance : Inhabited Find := ⟨⟨default, 0, 0, 0⟩⟩
structure Mark where
  Question : Int
  Answer : Int
instance : Inhabited Mark := ⟨⟨0, 0⟩⟩
structure Secret where
  Thing : Int
  Marks : List Mark
  Salt : Int
instance : Inhabited Secret := ⟨⟨0, [], 0⟩⟩
structure Slot where
  Id : Int
  Size : Int
  Thing : Int
instance : Inhabited Slot := ⟨⟨0, 0, 0⟩⟩
structure Claim where
  Id : Int
  Who : Int
  Thing : Int
  At : Int
  State : Int
instance : Inhabited Claim := ⟨⟨0, 0, 0, 0, 0⟩⟩
structure Trial where
  Claim : Int
  Asked : Int
  Right : Int
  Wrong : Int
instance : Inhabited Trial := ⟨⟨0, 0, 0, 0⟩⟩
structure Hand where
  Thing : Int
  Holder : Int
  Who : Int
  At : Int
  Seal : Int
instance : Inhabited Hand := ⟨⟨0, 0, 0, 0, 0⟩⟩
structure Entry where
  From : Int
  To : Int
  Cents : Int
  At : Int
instance : Inhabited Entry := ⟨⟨0, 0, 0, 0⟩⟩
structure House where
  No : Int
  Finds : List Find
  Secrets : List Secret
  Slots : List Slot
  Claims : List Claim
  Trials : List Trial
  Chain : List Hand
  Book : List Entry
  Now : Int
instance : Inhabited House := ⟨⟨0, [], [], [], [], [], [], [], 0⟩⟩
def okThing (x : Thing) : Prop := i64 x.Id ∧ i64 x.Kind ∧ i64 x.Colour ∧ i64 x.Size ∧ i64 x.Worth
def okFind (x : Find) : Prop := okThing x.Thing ∧ i64 x.Place ∧ i64 x.At ∧ i64 x.Finder
def okMark (x : Mark) : Prop := i64 x.Question ∧ i64 x.Answer
def okSecret (x : Secret) : Prop := i64 x.Thing ∧ (okL okMark) x.Marks ∧ i64 x.Salt
def okSlot (x : Slot) : Prop := i64 x.Id ∧ i64 x.Size ∧ i64 x.Thing
def okClaim (x : Claim) : Prop := i64 x.Id ∧ i64 x.Who ∧ i64 x.Thing ∧ i64 x.At ∧ i64 x.State
def okTrial (x : Trial) : Prop := i64 x.Claim ∧ i64 x.Asked ∧ i64 x.Right ∧ i64 x.Wrong
def okHand (x : Hand) : Prop := i64 x.Thing ∧ i64 x.Holder ∧ i64 x.Who ∧ i64 x.At ∧ i64 x.Seal
def okEntry (x : Entry) : Prop := i64 x.From ∧ i64 x.To ∧ i64 x.Cents ∧ i64 x.At
def okHouse (x : House) : Prop := i64 x.No ∧ (okL okFind) x.Finds ∧ (okL okSecret) x.Secrets ∧ (okL okSlot) x.Slots ∧ (okL okClaim) x.Claims ∧ (okL okTrial) x.Trials ∧ (okL okHand) x.Chain ∧ (okL okEntry) x.Book ∧ i64 x.Now
def slices_Grow_int (n : Int) : Option (List Int) := nd (decide (0 ≤ n) && decide (n ≤ 17592186044416)) <| some []
noncomputable def laws_szFindS (a : List Find) (left : Int) : Option Int := bif (decide (w64 (left - (ln a)) < 0)) then some (-1) else some (w64 (left - (ln a)))
noncomputable def laws_szMarkS (a : List Mark) (left : Int) : Option Int := bif (decide (w64 (left - (ln a)) < 0)) then some (-1) else some (w64 (left - (ln a)))
noncomputable def laws_szSecret (a : Secret) (left : Int) : Option Int := (laws_szMarkS a.Marks left).bind fun r => (bif (decide (r < 0)) then some (-1) else some r)
noncomputable def laws_szSecretS_l5 (a : List Secret) : (Int × Int) → Option ((Int × Int) ⊕ (Fl Int Int)) := fun (left, i) => bif (decide (i < ln a)) then nd (inb a i) <| (laws_szSecret (gt a i) left).bind fun r => (bif (decide (r < 0)) then some (.inr (.ret (-1))) else some (.inl (r, w64 (i + 1)))) else some (.inr (.brk left))
noncomputable def laws_szSecretS (a : List Secret) (left : Int) : Option Int := bif (decide (w64 (left - (ln a)) < 0)) then some (-1) else (run (laws_szSecretS_l5 a) (w64 (left - (ln a)), 0)).bind (evO (fun r => some r) fun b => some b)
noncomputable def laws_szSlotS (a : List Slot) (left : Int) : Option Int := bif (decide (w64 (left - (ln a)) < 0)) then some (-1) else some (w64 (left - (ln a)))
noncomputable def laws_szClaimS (a : List Claim) (left : Int) : Option Int := bif (decide (w64 (left - (ln a)) < 0)) then some (-1) else some (w64 (left - (ln a)))
noncomputable def laws_szTrialS (a : List Trial) (left : Int) : Option Int := bif (decide (w64 (left - (ln a)) < 0)) then some (-1) else some (w64 (left - (ln a)))
noncomputable def laws_szHandS (a : List Hand) (left : Int) : Option Int := bif (decide (w64 (left - (ln a)) < 0)) then some (-1) else some (w64 (left - (ln a)))
noncomputable def laws_szEntryS (a : List Entry) (left : Int) : Option Int := bif (decide (w64 (left - (ln a)) < 0)) then some (-1) else some (w64 (left - (ln a)))
noncomputable def laws_szHouse (a : House) (left : Int) : Option Int := (laws_szFindS a.Finds left).bind fun r => (bif (decide (r < 0)) then some (-1) else (laws_szSecretS a.Secrets r).bind fun r2 => (bif (decide (r2 < 0)) then some (-1) else (laws_szSlotS a.Slots r2).bind fun r3 => (bif (decide (r3 < 0)) then some (-1) else (laws_szClaimS a.Claims r3).bind fun r4 => (bif (decide (r4 < 0)) then some (-1) else (laws_szTrialS a.Trials r4).bind fun r5 => (bif (decide (r5 < 0)) then some (-1) else (laws_szHandS a.Chain r5).bind fun r6 => (bif (decide (r6 < 0)) then some (-1) else (laws_szEntryS a.Book r6).bind fun r7 => (bif (decide (r7 < 0)) then some (-1) else some r7)))))))
noncomputable def laws_toThing (a : Thing) : Option Thing := some a
noncomputable def laws_toFind (a : Find) : Option Find := (laws_toThing a.Thing).bind fun r => some (⟨r, a.Place, a.At, a.Finder⟩ : Find)
noncomputable def laws_toFindS_l3 (a : List Find) : ((List Find) × Int) → Option (((List Find) × Int) ⊕ (List Find)) := fun (out, i) => bif (decide (i < ln a)) then nd (inb a i) <| (laws_toFind (gt a i)).bind fun r => nd (inb out i) <| some (.inl (out.set i.toNat r, w64 (i + 1))) else some (.inr out)
noncomputable def laws_toFindS (a : List Find) : Option (List Find) := nd (mkB (ln a) 64) <| (run (laws_toFindS_l3 a) (List.replicate (ln a).toNat (⟨⟨0, 0, 0, 0, 0⟩, 0, 0, 0⟩ : Find), 0)).bind fun b => some b
noncomputable def laws_toMark (a : Mark) : Option Mark := some a
noncomputable def laws_toMarkS_l3 (a : List Mark) : ((List Mark) × Int) → Option (((List Mark) × Int) ⊕ (List Mark)) := fun (out, i) => bif (decide (i < ln a)) then nd (inb a i) <| (laws_toMark (gt a i)).bind fun r => nd (inb out i) <| some (.inl (out.set i.toNat r, w64 (i + 1))) else some (.inr out)
noncomputable def laws_toMarkS (a : List Mark) : Option (List Mark) := nd (mkB (ln a) 16) <| (run (laws_toMarkS_l3 a) (List.replicate (ln a).toNat (⟨0, 0⟩ : Mark), 0)).bind fun b => some b
noncomputable def laws_toSecret (a : Secret) : Option Secret := (laws_toMarkS a.Marks).bind fun r => some (⟨a.Thing, r, a.Salt⟩ : Secret)
noncomputable def laws_toSecretS_l3 (a : List Secret) : ((List Secret) × Int) → Option (((List Secret) × Int) ⊕ (List Secret)) := fun (out, i) => bif (decide (i < ln a)) then nd (inb a i) <| (laws_toSecret (gt a i)).bind fun r => nd (inb out i) <| some (.inl (out.set i.toNat r, w64 (i + 1))) else some (.inr out)
noncomputable def laws_toSecretS (a : List Secret) : Option (List Secret) := nd (mkB (ln a) 40) <| (run (laws_toSecretS_l3 a) (List.replicate (ln a).toNat (⟨0, [], 0⟩ : Secret), 0)).bind fun b => some b
noncomputable def laws_toSlot (a : Slot) : Option Slot := some a
noncomputable def laws_toSlotS_l3 (a : List Slot) : ((List Slot) × Int) → Option (((List Slot) × Int) ⊕ (List Slot)) := fun (out, i) => bif (decide (i < ln a)) then nd (inb a i) <| (laws_toSlot (gt a i)).bind fun r => nd (inb out i) <| some (.inl (out.set i.toNat r, w64 (i + 1))) else some (.inr out)
noncomputable def laws_toSlotS (a : List Slot) : Option (List Slot) := nd (mkB (ln a) 24) <| (run (laws_toSlotS_l3 a) (List.replicate (ln a).toNat (⟨0, 0, 0⟩ : Slot), 0)).bind fun b => some b
noncomputable def laws_toClaim (a : Claim) : Option Claim := some a
noncomputable def laws_toClaimS_l3 (a : List Claim) : ((List Claim) × Int) → Option (((List Claim) × Int) ⊕ (List Claim)) := fun (out, i) => bif (decide (i < ln a)) then nd (inb a i) <| (laws_toClaim (gt a i)).bind fun r => nd (inb out i) <| some (.inl (out.set i.toNat r, w64 (i + 1))) else some (.inr out)
noncomputable def laws_toClaimS (a : List Claim) : Option (List Claim) := nd (mkB (ln a) 40) <| (run (laws_toClaimS_l3 a) (List.replicate (ln a).toNat (⟨0, 0, 0, 0, 0⟩ : Claim), 0)).bind fun b => some b
noncomputable def laws_toTrial (a : Trial) : Option Trial := some a
noncomputable def laws_toTrialS_l3 (a : List Trial) : ((List Trial) × Int) → Option (((List Trial) × Int) ⊕ (List Trial)) := fun (out, i) => bif (decide (i < ln a)) then nd (inb a i) <| (laws_toTrial (gt a i)).bind fun r => nd (inb out i) <| some (.inl (out.set i.toNat r, w64 (i + 1))) else some (.inr out)
noncomputable def laws_toTrialS (a : List Trial) : Option (List Trial) := nd (mkB (ln a) 32) <| (run (laws_toTrialS_l3 a) (List.replicate (ln a).toNat (⟨0, 0, 0, 0⟩ : Trial), 0)).bind fun b => some b
noncomputable def laws_toHand (a : Hand) : Option Hand := some a
noncomputable def laws_toHandS_l3 (a : List Hand) : ((List Hand) × Int) → Option (((List Hand) × Int) ⊕ (List Hand)) := fun (out, i) => bif (decide (i < ln a)) then nd (inb a i) <| (laws_toHand (gt a i)).bind fun r => nd (inb out i) <| some (.inl (out.set i.toNat r, w64 (i + 1))) else some (.inr out)
noncomputable def laws_toHandS (a : List Hand) : Option (List Hand) := nd (mkB (ln a) 40) <| (run (laws_toHandS_l3 a) (List.replicate (ln a).toNat (⟨0, 0, 0, 0, 0⟩ : Hand), 0)).bind fun b => some b
noncomputable def laws_toEntry (a : Entry) : Option Entry := some a
noncomputable def laws_toEntryS_l3 (a : List Entry) : ((List Entry) × Int) → Option (((List Entry) × Int) ⊕ (List Entry)) := fun (out, i) => bif (decide (i < ln a)) then nd (inb a i) <| (laws_toEntry (gt a i)).bind fun r => nd (inb out i) <| some (.inl (out.set i.toNat r, w64 (i + 1))) else some (.inr out)
noncomputable def laws_toEntryS (a : List Entry) : Option (List Entry) := nd (mkB (ln a) 32) <| (run (laws_toEntryS_l3 a) (List.replicate (ln a).toNat (⟨0, 0, 0, 0⟩ : Entry), 0)).bind fun b => some b
noncomputable def laws_toHouse (a : House) : Option House := (laws_toFindS a.Finds).bind fun r => (laws_toSecretS a.Secrets).bind fun r2 => (laws_toSlotS a.Slots).bind fun r3 => (laws_toClaimS a.Claims).bind fun r4 => (laws_toTrialS a.Trials).bind fun r5 => (laws_toHandS a.Chain).bind fun r6 => (laws_toEntryS a.Book).bind fun r7 => some (⟨a.No, r, r2, r3, r4, r5, r6, r7, a.Now⟩ : House)
noncomputable def spec_l9Put_l2 (l : List Int) (vn : Int) : Int → Option (Int ⊕ Int) := fun k => (bif (decide (k < ln l)) then nd (inb l k) <| some (decide (gt l k < vn)) else some false).bind fun b => (bif b then some (.inl (w64 (k + 1))) else some (.inr k))
noncomputable def spec_l9Put (l : List Int) (vn : Int) : Option (List Int) := (run (spec_l9Put_l2 l vn) 0).bind fun b => (bif (decide (b < ln l)) then nd (inb l b) <| some (decide (gt l b = vn)) else some false).bind fun b2 => (bif b2 then nd (rm (0 + l.length) 8) <| some l else nd (slB 0 b (ln l)) <| nd (slB b (ln l) (ln l)) <| nd (rm (0 + (cut l 0 b).length) 8) <| nd (rm ((cut l 0 b).length + 1) 8) <| nd (rm ((cut l 0 b).length + 1 + (cut l b (ln l)).length) 8) <| some (((cut l 0 b) ++ [vn]) ++ (cut l b (ln l))))
noncomputable def spec_AccountsOf_l3 (l : List Entry) : ((List Int) × Int) → Option (((List Int) × Int) ⊕ (List Int)) := fun (out, i) => bif (decide (i < ln l)) then nd (inb l i) <| (spec_l9Put out (gt l i).From).bind fun r => (spec_l9Put r (gt l i).To).bind fun r2 => some (.inl (r2, w64 (i + 1))) else some (.inr out)
noncomputable def spec_AccountsOf (l : List Entry) : Option (List Int) := (run (spec_AccountsOf_l3 l) ([], 0)).bind fun b => some b
noncomputable def spec_l1In (x : Int) (least : Int) (most : Int) : Option Bool := some ((decide (least ≤ x)) && (decide (x ≤ most)))
noncomputable def spec_AreEntries_l2 (l : List Entry) : Int → Option (Int ⊕ (Fl Bool Unit)) := fun i => bif (decide (i < ln l)) then nd (inb l i) <| ((spec_l1In (gt l i).From 0 999).bind fun r => (bif (!r) then some true else (spec_l1In (gt l i).To 0 999).bind fun r2 => (bif (!r2) then some true else (bif (decide ((gt l i).From = (gt l i).To)) then some true else (spec_l1In (gt l i).Cents 1 10000000).bind fun r3 => (bif (!r3) then some true else (spec_l1In (gt l i).At 0 100000).bind fun r4 => (bif (!r4) then some true else (bif (decide (0 < i)) then nd (inb l (w64 (i - 1))) <| some (decide ((gt l i).At < (gt l (w64 (i - 1))).At)) else some false))))))).bind fun b => (bif b then some (.inr (.ret false)) else some (.inl (w64 (i + 1)))) else some (.inr (.brk ()))
noncomputable def spec_AreEntries (l : List Entry) : Option Bool := (run (spec_AreEntries_l2 l) 0).bind (evO (fun r => some r) fun b => some (decide (ln l ≤ 100)))
noncomputable def spec_Balance_l3 (l : List Entry) (account : Int) : (Int × Int) → Option ((Int × Int) ⊕ Int) := fun (vn, i) => (bif (decide (i < ln l)) then (spec_AreEntries l).bind fun r => some r else some false).bind fun b => (bif b then nd (inb l i) <| (bif (decide ((gt l i).To = account)) then (bif (decide ((gt l i).From = account)) then some (.inl (w64 ((w64 (vn + (gt l i).Cents)) - (gt l i).Cents), w64 (i + 1))) else some (.inl (w64 (vn + (gt l i).Cents), w64 (i + 1)))) else (bif (decide ((gt l i).From = account)) then some (.inl (w64 (vn - (gt l i).Cents), w64 (i + 1))) else some (.inl (vn, w64 (i + 1))))) else some (.inr vn))
noncomputable def spec_Balance (l : List Entry) (account : Int) : Option Int := (run (spec_Balance_l3 l account) (0, 0)).bind fun b => some b
noncomputable def spec_IsBalanced_l4 (vh : House) (a : List Int) : (Int × Int) → Option ((Int × Int) ⊕ Int) := fun (vn, i) => bif (decide (i < ln a)) then nd (inb a i) <| (spec_Balance vh.Book (gt a i)).bind fun r => some (.inl (w64 (vn + r), w64 (i + 1))) else some (.inr vn)
noncomputable def spec_IsBalanced (vh : House) : Option Bool := (spec_AccountsOf vh.Book).bind fun r => (run (spec_IsBalanced_l4 vh r) (0, 0)).bind fun b => (bif (decide (b = 0)) then (spec_Balance vh.Book 0).bind fun r2 => some (decide (0 ≤ r2)) else some false).bind fun b2 => some b2
noncomputable def slices_Concat_int_l3 (slices : List (List Int)) (t9 : List (List Int)) (t10 : Int) : (Int × Int) → Option ((Int × Int) ⊕ Int) := fun (size, t11) => bif (decide (t11 < t10)) then nd (inb t9 t11) <| (bif (decide (w64 (size + (ln (gt t9 t11))) < 0)) then none else some (.inl (w64 (size + (ln (gt t9 t11))), w64 (t11 + 1)))) else some (.inr size)
noncomputable def slices_Concat_int_l11 (t25 : List (List Int)) (t26 : Int) : ((List Int) × Int) → Option (((List Int) × Int) ⊕ (List Int)) := fun (newslice, t27) => bif (decide (t27 < t26)) then nd (inb t25 t27) <| nd (rm (newslice.length + (gt t25 t27).length) 8) <| some (.inl (newslice ++ (gt t25 t27), w64 (t27 + 1))) else some (.inr newslice)
noncomputable def slices_Concat_int (slices : List (List Int)) : Option (List Int) := (run (slices_Concat_int_l3 slices slices (ln slices)) (0, 0)).bind fun b => (slices_Grow_int b).bind fun r => (run (slices_Concat_int_l11 slices (ln slices)) (r, 0)).bind fun b2 => some b2
noncomputable def impl_united_n1 (a : List Int) : Option (List Int) := (slices_Concat_int [a, []]).bind fun r => nd (decide (r.length < 4611686018427387904)) <| nd (decide ((sortI r).length < 4611686018427387904)) <| some (compI (sortI r))
noncomputable def impl_AccountsOf_l3 (t7 : List Entry) (t8 : Int) : ((List Int) × Int) → Option (((List Int) × Int) ⊕ (List Int)) := fun (out, t9) => bif (decide (t9 < t8)) then nd (inb t7 t9) <| nd (rm (out.length + 2) 8) <| some (.inl (out ++ [(gt t7 t9).From, (gt t7 t9).To], w64 (t9 + 1))) else some (.inr out)
noncomputable def impl_AccountsOf (l : List Entry) : Option (List Int) := (run (impl_AccountsOf_l3 l (ln l)) ([], 0)).bind fun b => (impl_united_n1 b).bind fun r => some r
noncomputable def impl_InRange (vn : Int) (low : Int) (high : Int) : Option Bool := some ((decide (low ≤ vn)) && (decide (vn ≤ high)))
noncomputable def impl_AreEntries_l4 (l : List Entry) (t8 : List Entry) (t9 : Int) : Int → Option (Int ⊕ (Fl Bool Unit)) := fun t10 => bif (decide (t10 < t9)) then nd (inb t8 t10) <| ((impl_InRange (gt t8 t10).From 0 999).bind fun r => (bif (!r) then some true else (impl_InRange (gt t8 t10).To 0 999).bind fun r2 => (bif (!r2) then some true else (bif (decide ((gt t8 t10).From = (gt t8 t10).To)) then some true else (impl_InRange (gt t8 t10).Cents 1 10000000).bind fun r3 => (bif (!r3) then some true else (impl_InRange (gt t8 t10).At 0 100000).bind fun r4 => (bif (!r4) then some true else (bif (decide (0 < t10)) then nd (inb l (w64 (t10 - 1))) <| some (decide ((gt t8 t10).At < (gt l (w64 (t10 - 1))).At)) else some false))))))).bind fun b => (bif b then some (.inr (.ret false)) else some (.inl (w64 (t10 + 1)))) else some (.inr (.brk ()))
noncomputable def impl_AreEntries (l : List Entry) : Option Bool := bif (decide (100 < ln l)) then some false else (run (impl_AreEntries_l4 l l (ln l)) 0).bind (evO (fun r => some r) fun b => some true)
noncomputable def impl_totalTo_l3 (account : Int) (t8 : List Entry) (t9 : Int) : (Int × Int) → Option ((Int × Int) ⊕ Int) := fun (vn, t10) => bif (decide (t10 < t9)) then nd (inb t8 t10) <| (bif (decide ((gt t8 t10).To = account)) then some (.inl (w64 (vn + (gt t8 t10).Cents), w64 (t10 + 1))) else some (.inl (vn, w64 (t10 + 1)))) else some (.inr vn)
noncomputable def impl_totalTo (l : List Entry) (account : Int) : Option Int := (run (impl_totalTo_l3 account l (ln l)) (0, 0)).bind fun b => some b
noncomputable def impl_TotalPaid_l5 (account : Int) (t12 : List Entry) (t13 : Int) : (Int × Int) → Option ((Int × Int) ⊕ Int) := fun (vn, t14) => bif (decide (t14 < t13)) then nd (inb t12 t14) <| (bif (decide ((gt t12 t14).From = account)) then some (.inl (w64 (vn + (gt t12 t14).Cents), w64 (t14 + 1))) else some (.inl (vn, w64 (t14 + 1)))) else some (.inr vn)
noncomputable def impl_TotalPaid (l : List Entry) (account : Int) : Option Int := (impl_AreEntries l).bind fun r => (bif (!r) then some 0 else (run (impl_TotalPaid_l5 account l (ln l)) (0, 0)).bind fun b => some b)
noncomputable def impl_Balance (l : List Entry) (account : Int) : Option Int := (impl_AreEntries l).bind fun r => (bif (!r) then some 0 else (impl_totalTo l account).bind fun r2 => (impl_TotalPaid l account).bind fun r3 => some (w64 (r2 - r3)))
noncomputable def impl_IsBalanced_l3 (vh : House) (t8 : List Int) (t9 : Int) : (Int × Int) → Option ((Int × Int) ⊕ Int) := fun (sum, t10) => bif (decide (t10 < t9)) then nd (inb t8 t10) <| (impl_Balance vh.Book (gt t8 t10)).bind fun r => some (.inl (w64 (sum + r), w64 (t10 + 1))) else some (.inr sum)
noncomputable def impl_IsBalanced (vh : House) : Option Bool := (impl_AccountsOf vh.Book).bind fun r => (run (impl_IsBalanced_l3 vh r (ln r)) (0, 0)).bind fun b => (bif (decide (b = 0)) then (impl_Balance vh.Book 0).bind fun r2 => some (decide (0 ≤ r2)) else some false).bind fun b2 => some b2
noncomputable def laws_eqThing (a : Thing) (b : Thing) : Option Bool := bif (!decide (a.Id = b.Id)) then some false else (bif (!decide (a.Kind = b.Kind)) then some false else (bif (!decide (a.Colour = b.Colour)) then some false else (bif (!decide (a.Size = b.Size)) then some false else (bif (!decide (a.Worth = b.Worth)) then some false else some true))))
noncomputable def laws_eqFind (a : Find) (b : Find) : Option Bool := (laws_eqThing a.Thing b.Thing).bind fun r => (bif (!r) then some false else (bif (!decide (a.Place = b.Place)) then some false else (bif (!decide (a.At = b.At)) then some false else (bif (!decide (a.Finder = b.Finder)) then some false else some true))))
noncomputable def laws_eqFindS_l4 (a : List Find) (b : List Find) : Int → Option (Int ⊕ (Fl Bool Unit)) := fun i => bif (decide (i < ln a)) then nd (inb a i) <| nd (inb b i) <| (laws_eqFind (gt a i) (gt b i)).bind fun r => (bif (!r) then some (.inr (.ret false)) else some (.inl (w64 (i + 1)))) else some (.inr (.brk ()))
noncomputable def laws_eqFindS (a : List Find) (b : List Find) : Option Bool := bif (!decide (ln a = ln b)) then some false else (run (laws_eqFindS_l4 a b) 0).bind (evO (fun r => some r) fun b2 => some true)
noncomputable def laws_eqMark (a : Mark) (b : Mark) : Option Bool := bif (!decide (a.Question = b.Question)) then some false else (bif (!decide (a.Answer = b.Answer)) then some false else some true)
noncomputable def laws_eqMarkS_l4 (a : List Mark) (b : List Mark) : Int → Option (Int ⊕ (Fl Bool Unit)) := fun i => bif (decide (i < ln a)) then nd (inb a i) <| nd (inb b i) <| (laws_eqMark (gt a i) (gt b i)).bind fun r => (bif (!r) then some (.inr (.ret false)) else some (.inl (w64 (i + 1)))) else some (.inr (.brk ()))
noncomputable def laws_eqMarkS (a : List Mark) (b : List Mark) : Option Bool := bif (!decide (ln a = ln b)) then some false else (run (laws_eqMarkS_l4 a b) 0).bind (evO (fun r => some r) fun b2 => some true)
noncomputable def laws_eqSecret (a : Secret) (b : Secret) : Option Bool := bif (!decide (a.Thing = b.Thing)) then some false else (laws_eqMarkS a.Marks b.Marks).bind fun r => (bif (!r) then some false else (bif (!decide (a.Salt = b.Salt)) then some false else some true))
noncomputable def laws_eqSecretS_l4 (a : List Secret) (b : List Secret) : Int → Option (Int ⊕ (Fl Bool Unit)) := fun i => bif (decide (i < ln a)) then nd (inb a i) <| nd (inb b i) <| (laws_eqSecret (gt a i) (gt b i)).bind fun r => (bif (!r) then some (.inr (.ret false)) else some (.inl (w64 (i + 1)))) else some (.inr (.brk ()))
noncomputable def laws_eqSecretS (a : List Secret) (b : List Secret) : Option Bool := bif (!decide (ln a = ln b)) then some false else (run (laws_eqSecretS_l4 a b) 0).bind (evO (fun r => some r) fun b2 => some true)
noncomputable def laws_eqSlot (a : Slot) (b : Slot) : Option Bool := bif (!decide (a.Id = b.Id)) then some false else (bif (!decide (a.Size = b.Size)) then some false else (bif (!decide (a.Thing = b.Thing)) then some false else some true))
noncomputable def laws_eqSlotS_l4 (a : List Slot) (b : List Slot) : Int → Option (Int ⊕ (Fl Bool Unit)) := fun i => bif (decide (i < ln a)) then nd (inb a i) <| nd (inb b i) <| (laws_eqSlot (gt a i) (gt b i)).bind fun r => (bif (!r) then some (.inr (.ret false)) else some (.inl (w64 (i + 1)))) else some (.inr (.brk ()))
noncomputable def laws_eqSlotS (a : List Slot) (b : List Slot) : Option Bool := bif (!decide (ln a = ln b)) then some false else (run (laws_eqSlotS_l4 a b) 0).bind (evO (fun r => some r) fun b2 => some true)
noncomputable def laws_eqClaim (a : Claim) (b : Claim) : Option Bool := bif (!decide (a.Id = b.Id)) then some false else (bif (!decide (a.Who = b.Who)) then some false else (bif (!decide (a.Thing = b.Thing)) then some false else (bif (!decide (a.At = b.At)) then some false else (bif (!decide (a.State = b.State)) then some false else some true))))
noncomputable def laws_eqClaimS_l4 (a : List Claim) (b : List Claim) : Int → Option (Int ⊕ (Fl Bool Unit)) := fun i => bif (decide (i < ln a)) then nd (inb a i) <| nd (inb b i) <| (laws_eqClaim (gt a i) (gt b i)).bind fun r => (bif (!r) then some (.inr (.ret false)) else some (.inl (w64 (i + 1)))) else some (.inr (.brk ()))
noncomputable def laws_eqClaimS (a : List Claim) (b : List Claim) : Option Bool := bif (!decide (ln a = ln b)) then some false else (run (laws_eqClaimS_l4 a b) 0).bind (evO (fun r => some r) fun b2 => some true)
noncomputable def laws_eqTrial (a : Trial) (b : Trial) : Option Bool := bif (!decide (a.Claim = b.Claim)) then some false else (bif (!decide (a.Asked = b.Asked)) then some false else (bif (!decide (a.Right = b.Right)) then some false else (bif (!decide (a.Wrong = b.Wrong)) then some false else some true)))
noncomputable def laws_eqTrialS_l4 (a : List Trial) (b : List Trial) : Int → Option (Int ⊕ (Fl Bool Unit)) := fun i => bif (decide (i < ln a)) then nd (inb a i) <| nd (inb b i) <| (laws_eqTrial (gt a i) (gt b i)).bind fun r => (bif (!r) then some (.inr (.ret false)) else some (.inl (w64 (i + 1)))) else some (.inr (.brk ()))
noncomputable def laws_eqTrialS (a : List Trial) (b : List Trial) : Option Bool := bif (!decide (ln a = ln b)) then some false else (run (laws_eqTrialS_l4 a b) 0).bind (evO (fun r => some r) fun b2 => some true)
noncomputable def laws_eqHand (a : Hand) (b : Hand) : Option Bool := bif (!decide (a.Thing = b.Thing)) then some false else (bif (!decide (a.Holder = b.Holder)) then some false else (bif (!decide (a.Who = b.Who)) then some false else (bif (!decide (a.At = b.At)) then some false else (bif (!decide (a.Seal = b.Seal)) then some false else some true))))
noncomputable def laws_eqHandS_l4 (a : List Hand) (b : List Hand) : Int → Option (Int ⊕ (Fl Bool Unit)) := fun i => bif (decide (i < ln a)) then nd (inb a i) <| nd (inb b i) <| (laws_eqHand (gt a i) (gt b i)).bind fun r => (bif (!r) then some (.inr (.ret false)) else some (.inl (w64 (i + 1)))) else some (.inr (.brk ()))
noncomputable def laws_eqHandS (a : List Hand) (b : List Hand) : Option Bool := bif (!decide (ln a = ln b)) then some false else (run (laws_eqHandS_l4 a b) 0).bind (evO (fun r => some r) fun b2 => some true)
noncomputable def laws_eqEntry (a : Entry) (b : Entry) : Option Bool := bif (!decide (a.From = b.From)) then some false else (bif (!decide (a.To = b.To)) then some false else (bif (!decide (a.Cents = b.Cents)) then some false else (bif (!decide (a.At = b.At)) then some false else some true)))
noncomputable def laws_eqEntryS_l4 (a : List Entry) (b : List Entry) : Int → Option (Int ⊕ (Fl Bool Unit)) := fun i => bif (decide (i < ln a)) then nd (inb a i) <| nd (inb b i) <| (laws_eqEntry (gt a i) (gt b i)).bind fun r => (bif (!r) then some (.inr (.ret false)) else some (.inl (w64 (i + 1)))) else some (.inr (.brk ()))
noncomputable def laws_eqEntryS (a : List Entry) (b : List Entry) : Option Bool := bif (!decide (ln a = ln b)) then some false else (run (laws_eqEntryS_l4 a b) 0).bind (evO (fun r => some r) fun b2 => some true)
noncomputable def laws_eqHouse (a : House) (b : House) : Option Bool := bif (!decide (a.No = b.No)) then some false else (laws_eqFindS a.Finds b.Finds).bind fun r => (bif (!r) then some false else (laws_eqSecretS a.Secrets b.Secrets).bind fun r2 => (bif (!r2) then some false else (laws_eqSlotS a.Slots b.Slots).bind fun r3 => (bif (!r3) then some false else (laws_eqClaimS a.Claims b.Claims).bind fun r4 => (bif (!r4) then some false else (laws_eqTrialS a.Trials b.Trials).bind fun r5 => (bif (!r5) then some false else (laws_eqHandS a.Chain b.Chain).bind fun r6 => (bif (!r6) then some false else (laws_eqEntryS a.Book b.Book).bind fun r7 => (bif (!r7) then some false else (bif (!decide (a.Now = b.Now)) then some false else some true))))))))
noncomputable def laws_FnExactIsBalanced (aH : House) : Option Bool := (laws_szHouse aH 1048576).bind fun r => (bif (decide (r < 0)) then some true else (laws_toHouse aH).bind fun r2 => (spec_IsBalanced r2).bind fun r3 => (laws_toHouse aH).bind fun r4 => (impl_IsBalanced r4).bind fun r5 => (bif (!decide (r5 = r3)) then some false else (laws_toHouse aH).bind fun r6 => (laws_eqHouse r4 r6).bind fun r7 => (bif (!r7) then some false else some true)))
end Go.Proofs.Ytcpelionmmnogaa
