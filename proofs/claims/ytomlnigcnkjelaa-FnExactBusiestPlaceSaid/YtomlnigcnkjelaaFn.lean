/- The functions, typed. Definitions. No condition. -/
import Derived.Test.YtomlnigcnkjelaaPw
namespace Go.Proofs.Ytomlnigcnkjelaa
open Go
set_option linter.unusedVariables false
set_option linter.unusedSimpArgs false
set_option linter.defProp false
set_option maxRecDepth 100000
structure Hand where
  Thing : Int
  Holder : Int
  Who : Int
  At : Int
  Seal : Int
instance : Inhabited Hand := ⟨⟨0, 0, 0, 0, 0⟩⟩
structure Thing where
  Id : Int
  Kind : Int
  Colour : Int
  Size : Int
  Worth : Int
instance : Inhabited Thing := ⟨⟨0, 0, 0, 0, 0⟩⟩
structure Find where
  Thing : Thing
  Place : Int
  At : Int
  Finder : Int
instance : Inhabited Find := ⟨⟨default, 0, 0, 0⟩⟩
structure Mark where
  Question : Int
  Answer : Int
instance : Inhabited Mark := ⟨⟨0, 0⟩⟩
structure Bid where
  Who : Int
  Cents : Int
  Seal : Int
instance : Inhabited Bid := ⟨⟨0, 0, 0⟩⟩
structure Event where
  Kind : Int
  Find : Find
  Marks : List Mark
  Id : Int
  Who : Int
  N : Int
  Bids : List Bid
instance : Inhabited Event := ⟨⟨0, default, [], 0, 0, 0, []⟩⟩
def okHand (x : Hand) : Prop := i64 x.Thing ∧ i64 x.Holder ∧ i64 x.Who ∧ i64 x.At ∧ i64 x.Seal
def okThing (x : Thing) : Prop := i64 x.Id ∧ i64 x.Kind ∧ i64 x.Colour ∧ i64 x.Size ∧ i64 x.Worth
def okFind (x : Find) : Prop := okThing x.Thing ∧ i64 x.Place ∧ i64 x.At ∧ i64 x.Finder
def okMark (x : Mark) : Prop := i64 x.Question ∧ i64 x.Answer
def okBid (x : Bid) : Prop := i64 x.Who ∧ i64 x.Cents ∧ i64 x.Seal
def okEvent (x : Event) : Prop := i64 x.Kind ∧ okFind x.Find ∧ (okL okMark) x.Marks ∧ i64 x.Id ∧ i64 x.Who ∧ i64 x.N ∧ (okL okBid) x.Bids
noncomputable def laws_szHandS (a : List Hand) (left : Int) : Option Int := bif (decide (w64 (left - (ln a)) < 0)) then some (-1) else some (w64 (left - (ln a)))
noncomputable def laws_toHand (a : Hand) : Option Hand := some a
noncomputable def laws_toHandS_l3 (a : List Hand) : ((List Hand) × Int) → Option (((List Hand) × Int) ⊕ (List Hand)) := fun (out, i) => bif (decide (i < ln a)) then nd (inb a i) <| (laws_toHand (gt a i)).bind fun r => nd (inb out i) <| some (.inl (out.set i.toNat r, w64 (i + 1))) else some (.inr out)
noncomputable def laws_toHandS (a : List Hand) : Option (List Hand) := nd (mkB (ln a) 40) <| (run (laws_toHandS_l3 a) (List.replicate (ln a).toNat (⟨0, 0, 0, 0, 0⟩ : Hand), 0)).bind fun b => some b
noncomputable def spec_HandsOf_l3 (l : List Hand) (thing : Int) : ((List Hand) × Int) → Option (((List Hand) × Int) ⊕ (List Hand)) := fun (out, i) => bif (decide (i < ln l)) then nd (inb l i) <| (bif (decide ((gt l i).Thing = thing)) then nd (rm (out.length + 1) 40) <| some (.inl (out ++ [gt l i], w64 (i + 1))) else some (.inl (out, w64 (i + 1)))) else some (.inr out)
noncomputable def spec_HandsOf (l : List Hand) (thing : Int) : Option (List Hand) := (run (spec_HandsOf_l3 l thing) ([], 0)).bind fun b => some b
noncomputable def spec_l1In (x : Int) (least : Int) (most : Int) : Option Bool := some ((decide (least ≤ x)) && (decide (x ≤ most)))
noncomputable def spec_HolderText (holder : Int) : Option (List UInt8) := (spec_l1In holder 1 5).bind fun r => (bif (!r) then some [] else nd (inb [[], [102, 105, 110, 100, 101, 114], [104, 111, 117, 115, 101], [111, 119, 110, 101, 114], [98, 117, 121, 101, 114], [103, 111, 110, 101]] holder) <| some (gt [[], [102, 105, 110, 100, 101, 114], [104, 111, 117, 115, 101], [111, 119, 110, 101, 114], [98, 117, 121, 101, 114], [103, 111, 110, 101]] holder))
noncomputable def spec_EndOf (l : List Hand) (thing : Int) : Option (List UInt8) := (spec_HandsOf l thing).bind fun r => (bif (decide (ln r = 0)) then some [45] else nd (inb r (w64 ((ln r) - 1))) <| (spec_HolderText (gt r (w64 ((ln r) - 1))).Holder).bind fun r2 => some r2)
noncomputable def impl_lastHand_l2 (l : List Hand) (thing : Int) : Int → Option (Int ⊕ (Fl Int Unit)) := fun i => bif (decide (0 ≤ i)) then nd (inb l i) <| (bif (decide ((gt l i).Thing = thing)) then some (.inr (.ret i)) else some (.inl (w64 (i - 1)))) else some (.inr (.brk ()))
noncomputable def impl_lastHand (l : List Hand) (thing : Int) : Option Int := (run (impl_lastHand_l2 l thing) (w64 ((ln l) - 1))).bind (evO (fun r => some r) fun b => some (-1))
noncomputable def laws_szFindS (a : List Find) (left : Int) : Option Int := bif (decide (w64 (left - (ln a)) < 0)) then some (-1) else some (w64 (left - (ln a)))
noncomputable def laws_toThing (a : Thing) : Option Thing := some a
noncomputable def laws_toFind (a : Find) : Option Find := (laws_toThing a.Thing).bind fun r => some (⟨r, a.Place, a.At, a.Finder⟩ : Find)
noncomputable def laws_toFindS_l3 (a : List Find) : ((List Find) × Int) → Option (((List Find) × Int) ⊕ (List Find)) := fun (out, i) => bif (decide (i < ln a)) then nd (inb a i) <| (laws_toFind (gt a i)).bind fun r => nd (inb out i) <| some (.inl (out.set i.toNat r, w64 (i + 1))) else some (.inr out)
noncomputable def laws_toFindS (a : List Find) : Option (List Find) := nd (mkB (ln a) 64) <| (run (laws_toFindS_l3 a) (List.replicate (ln a).toNat (⟨⟨0, 0, 0, 0, 0⟩, 0, 0, 0⟩ : Find), 0)).bind fun b => some b
noncomputable def spec_OldestFind_l3 (l : List Find) : (Int × Int) → Option ((Int × Int) ⊕ Int) := fun (k, i) => bif (decide (i < ln l)) then (bif (decide (k < 0)) then some (.inl (i, w64 (i + 1))) else nd (inb l i) <| nd (inb l k) <| (bif (decide ((gt l i).At < (gt l k).At)) then some (.inl (i, w64 (i + 1))) else some (.inl (k, w64 (i + 1))))) else some (.inr k)
noncomputable def spec_OldestFind (l : List Find) : Option Int := (run (spec_OldestFind_l3 l) ((-1), 0)).bind fun b => (bif (decide (b < 0)) then some 0 else nd (inb l b) <| some (gt l b).Thing.Id)
noncomputable def impl_OldestFind_l5 (t12 : List Find) (t13 : Int) : (Find × Int) → Option ((Find × Int) ⊕ Find) := fun (oldest, t14) => bif (decide (t14 < t13)) then nd (inb t12 t14) <| (bif (decide ((gt t12 t14).At < oldest.At)) then some (.inl (gt t12 t14, w64 (t14 + 1))) else some (.inl (oldest, w64 (t14 + 1)))) else some (.inr oldest)
noncomputable def impl_OldestFind (l : List Find) : Option Int := bif (decide (ln l = 0)) then some 0 else nd (inb l 0) <| (run (impl_OldestFind_l5 l (ln l)) (gt l 0, 0)).bind fun b => some b.Thing.Id
noncomputable def laws_eqThing (a : Thing) (b : Thing) : Option Bool := bif (!decide (a.Id = b.Id)) then some false else (bif (!decide (a.Kind = b.Kind)) then some false else (bif (!decide (a.Colour = b.Colour)) then some false else (bif (!decide (a.Size = b.Size)) then some false else (bif (!decide (a.Worth = b.Worth)) then some false else some true))))
noncomputable def laws_eqFind (a : Find) (b : Find) : Option Bool := (laws_eqThing a.Thing b.Thing).bind fun r => (bif (!r) then some false else (bif (!decide (a.Place = b.Place)) then some false else (bif (!decide (a.At = b.At)) then some false else (bif (!decide (a.Finder = b.Finder)) then some false else some true))))
noncomputable def laws_eqFindS_l4 (a : List Find) (b : List Find) : Int → Option (Int ⊕ (Fl Bool Unit)) := fun i => bif (decide (i < ln a)) then nd (inb a i) <| nd (inb b i) <| (laws_eqFind (gt a i) (gt b i)).bind fun r => (bif (!r) then some (.inr (.ret false)) else some (.inl (w64 (i + 1)))) else some (.inr (.brk ()))
noncomputable def laws_eqFindS (a : List Find) (b : List Find) : Option Bool := bif (!decide (ln a = ln b)) then some false else (run (laws_eqFindS_l4 a b) 0).bind (evO (fun r => some r) fun b2 => some true)
noncomputable def laws_FnExactOldestFind (aL : List Find) : Option Bool := (laws_szFindS aL 1048576).bind fun r => (bif (decide (r < 0)) then some true else (laws_toFindS aL).bind fun r2 => (spec_OldestFind r2).bind fun r3 => (laws_toFindS aL).bind fun r4 => (impl_OldestFind r4).bind fun r5 => (bif (!decide (r5 = r3)) then some false else (laws_toFindS aL).bind fun r6 => (laws_eqFindS r4 r6).bind fun r7 => (bif (!r7) then some false else some true)))
noncomputable def spec_Min (a : Int) (b : Int) : Option Int := bif (decide (b < a)) then some b else some a
noncomputable def spec_Max (a : Int) (b : Int) : Option Int := bif (decide (a < b)) then some b else some a
noncomputable def spec_WorthOf_l3 (l : List Find) : (Int × Int) → Option ((Int × Int) ⊕ Int) := fun (vn, i) => bif (decide (i < ln l)) then nd (inb l i) <| (spec_Min 10000000 (gt l i).Thing.Worth).bind fun r => (spec_Max 0 r).bind fun r2 => some (.inl (w64 (vn + r2), w64 (i + 1))) else some (.inr vn)
noncomputable def spec_WorthOf (l : List Find) : Option Int := (run (spec_WorthOf_l3 l) (0, 0)).bind fun b => some b
noncomputable def impl_WorthOf_l3 (t6 : List Find) (t7 : Int) : (Int × Int) → Option ((Int × Int) ⊕ Int) := fun (vn, t8) => bif (decide (t8 < t7)) then nd (inb t6 t8) <| some (.inl (w64 (vn + (if 0 < (if 10000000 < (gt t6 t8).Thing.Worth then 10000000 else (gt t6 t8).Thing.Worth) then (if 10000000 < (gt t6 t8).Thing.Worth then 10000000 else (gt t6 t8).Thing.Worth) else 0)), w64 (t8 + 1))) else some (.inr vn)
noncomputable def impl_WorthOf (l : List Find) : Option Int := (run (impl_WorthOf_l3 l (ln l)) (0, 0)).bind fun b => some b
noncomputable def laws_FnExactWorthOf (aL : List Find) : Option Bool := (laws_szFindS aL 1048576).bind fun r => (bif (decide (r < 0)) then some true else (laws_toFindS aL).bind fun r2 => (spec_WorthOf r2).bind fun r3 => (laws_toFindS aL).bind fun r4 => (impl_WorthOf r4).bind fun r5 => (bif (!decide (r5 = r3)) then some false else (laws_toFindS aL).bind fun r6 => (laws_eqFindS r4 r6).bind fun r7 => (bif (!r7) then some false else some true)))
noncomputable def spec_IsThing (x : Thing) : Option Bool := ((spec_l1In x.Id 1 999).bind fun r => (bif r then (spec_l1In x.Kind 1 8).bind fun r2 => (bif r2 then (spec_l1In x.Colour 0 7).bind fun r3 => (bif r3 then (spec_l1In x.Size 1 50).bind fun r4 => (bif r4 then (spec_l1In x.Worth 0 10000000).bind fun r5 => some r5 else some false) else some false) else some false) else some false)).bind fun b => some b
noncomputable def spec_IsFind (f : Find) : Option Bool := ((spec_IsThing f.Thing).bind fun r => (bif r then (spec_l1In f.Place 1 30).bind fun r2 => (bif r2 then (spec_l1In f.At 0 100000).bind fun r3 => (bif r3 then (spec_l1In f.Finder 0 999).bind fun r4 => some r4 else some false) else some false) else some false)).bind fun b => some b
noncomputable def spec_AreFinds_l2 (l : List Find) : Int → Option (Int ⊕ (Fl Bool Unit)) := fun i => bif (decide (i < ln l)) then nd (inb l i) <| (spec_IsFind (gt l i)).bind fun r => (bif (!r) then some (.inr (.ret false)) else (bif (decide (0 < i)) then nd (inb l (w64 (i - 1))) <| (bif (decide ((gt l i).Thing.Id ≤ (gt l (w64 (i - 1))).Thing.Id)) then some (.inr (.ret false)) else some (.inl (w64 (i + 1)))) else some (.inl (w64 (i + 1))))) else some (.inr (.brk ()))
noncomputable def spec_AreFinds (l : List Find) : Option Bool := (run (spec_AreFinds_l2 l) 0).bind (evO (fun r => some r) fun b => some (decide (ln l ≤ 20)))
noncomputable def spec_FoundAt_l3 (l : List Find) (place : Int) : ((List Int) × Int) → Option (((List Int) × Int) ⊕ (List Int)) := fun (out, i) => bif (decide (i < ln l)) then nd (inb l i) <| (bif (decide ((gt l i).Place = place)) then nd (rm (out.length + 1) 8) <| some (.inl (out ++ [(gt l i).Thing.Id], w64 (i + 1))) else some (.inl (out, w64 (i + 1)))) else some (.inr out)
noncomputable def spec_FoundAt (l : List Find) (place : Int) : Option (List Int) := (run (spec_FoundAt_l3 l place) ([], 0)).bind fun b => some b
noncomputable def spec_BusiestPlace_l4 (l : List Find) : (Int × Int × Int) → Option ((Int × Int × Int) ⊕ Int) := fun (best, most, p) => bif (decide (p ≤ 30)) then (spec_AreFinds l).bind fun r => (bif r then (spec_FoundAt l p).bind fun r2 => (bif (decide (most < ln r2)) then some (.inl (p, ln r2, w64 (p + 1))) else some (.inl (best, most, w64 (p + 1)))) else some (.inr best)) else some (.inr best)
noncomputable def spec_BusiestPlace (l : List Find) : Option Int := (run (spec_BusiestPlace_l4 l) (0, 0, 1)).bind fun b => some b
noncomputable def impl_InRange (vn : Int) (low : Int) (high : Int) : Option Bool := some ((decide (low ≤ vn)) && (decide (vn ≤ high)))
noncomputable def impl_IsThing (x : Thing) : Option Bool := ((impl_InRange x.Id 1 999).bind fun r => (bif r then (impl_InRange x.Kind 1 8).bind fun r2 => (bif r2 then (impl_InRange x.Colour 0 7).bind fun r3 => (bif r3 then (impl_InRange x.Size 1 50).bind fun r4 => (bif r4 then (impl_InRange x.Worth 0 10000000).bind fun r5 => some r5 else some false) else some false) else some false) else some false)).bind fun b => some b
noncomputable def impl_IsFind (f : Find) : Option Bool := ((impl_IsThing f.Thing).bind fun r => (bif r then (impl_InRange f.Place 1 30).bind fun r2 => (bif r2 then (impl_InRange f.At 0 100000).bind fun r3 => (bif r3 then (impl_InRange f.Finder 0 999).bind fun r4 => some r4 else some false) else some false) else some false)).bind fun b => some b
noncomputable def impl_AreFinds_l4 (l : List Find) (t8 : List Find) (t9 : Int) : Int → Option (Int ⊕ (Fl Bool Unit)) := fun t10 => bif (decide (t10 < t9)) then nd (inb t8 t10) <| (impl_IsFind (gt t8 t10)).bind fun r => (bif (!r) then some (.inr (.ret false)) else (bif (decide (0 < t10)) then nd (inb l (w64 (t10 - 1))) <| (bif (decide ((gt t8 t10).Thing.Id ≤ (gt l (w64 (t10 - 1))).Thing.Id)) then some (.inr (.ret false)) else some (.inl (w64 (t10 + 1)))) else some (.inl (w64 (t10 + 1))))) else some (.inr (.brk ()))
noncomputable def impl_AreFinds (l : List Find) : Option Bool := bif (decide (20 < ln l)) then some false else (run (impl_AreFinds_l4 l l (ln l)) 0).bind (evO (fun r => some r) fun b => some true)
noncomputable def impl_FoundAt_l3 (place : Int) (t9 : List Find) (t10 : Int) : ((List Int) × Int) → Option (((List Int) × Int) ⊕ (List Int)) := fun (out, t11) => bif (decide (t11 < t10)) then nd (inb t9 t11) <| (bif (decide ((gt t9 t11).Place = place)) then nd (rm (out.length + 1) 8) <| some (.inl (out ++ [(gt t9 t11).Thing.Id], w64 (t11 + 1))) else some (.inl (out, w64 (t11 + 1)))) else some (.inr out)
noncomputable def impl_FoundAt (l : List Find) (place : Int) : Option (List Int) := (run (impl_FoundAt_l3 place l (ln l)) ([], 0)).bind fun b => some b
noncomputable def impl_BusiestPlace_l5 (l : List Find) : (Int × Int × Int) → Option ((Int × Int × Int) ⊕ Int) := fun (best, most, place) => bif (decide (place ≤ 30)) then (impl_FoundAt l place).bind fun r => (bif (decide (most < ln r)) then some (.inl (place, ln r, w64 (place + 1))) else some (.inl (best, most, w64 (place + 1)))) else some (.inr best)
noncomputable def impl_BusiestPlace (l : List Find) : Option Int := (impl_AreFinds l).bind fun r => (bif (!r) then some 0 else (run (impl_BusiestPlace_l5 l) (0, 0, 1)).bind fun b => some b)
noncomputable def laws_FnExactBusiestPlace (aL : List Find) : Option Bool := (laws_szFindS aL 1048576).bind fun r => (bif (decide (r < 0)) then some true else (laws_toFindS aL).bind fun r2 => (spec_BusiestPlace r2).bind fun r3 => (laws_toFindS aL).bind fun r4 => (impl_BusiestPlace r4).bind fun r5 => (bif (!decide (r5 = r3)) then some false else (laws_toFindS aL).bind fun r6 => (laws_eqFindS r4 r6).bind fun r7 => (bif (!r7) then some false else some true)))
noncomputable def spec_Mod (vn : Int) (m : Int) : Option Int := (spec_l1In m 1 1000000000000).bind fun r => (bif (!r) then some 0 else nd (!decide (m = 0)) <| some ((w64 ((vn.tmod m) + m)).tmod m))
noncomputable def spec_Hash_l3 (l : List Int) : (Int × Int) → Option ((Int × Int) ⊕ Int) := fun (d, i) => bif (decide (i < ln l)) then nd (inb l i) <| (spec_Mod (gt l i) 2147483647).bind fun r => some (.inl (((w64 ((w64 ((w64 (d * 1000003)) + r)) + 13)).tmod 2147483647), w64 (i + 1))) else some (.inr d)
noncomputable def spec_Hash (l : List Int) : Option Int := (run (spec_Hash_l3 l) (11, 0)).bind fun b => some b
noncomputable def spec_HandSeal (before : Int) (x : Hand) : Option Int := (spec_Hash [before, x.Thing, x.Holder, x.Who, x.At]).bind fun r => some r
noncomputable def spec_l16Last_l3 (l : List Hand) (thing : Int) (before : Int) : (Int × Int) → Option ((Int × Int) ⊕ Int) := fun (k, i) => bif (decide (i < before)) then nd (inb l i) <| (bif (decide ((gt l i).Thing = thing)) then some (.inl (i, w64 (i + 1))) else some (.inl (k, w64 (i + 1)))) else some (.inr k)
noncomputable def spec_l16Last (l : List Hand) (thing : Int) (before : Int) : Option Int := (run (spec_l16Last_l3 l thing before) ((-1), 0)).bind fun b => some b
noncomputable def spec_IsChain_l3 (l : List Hand) : (Int × Int) → Option ((Int × Int) ⊕ (Fl Bool Unit)) := fun (t3, t4) => bif (decide (t4 < ln l)) then (bif (decide (ln l ≤ 100)) then nd (inb l t4) <| (spec_HandSeal t3 (gt l t4)).bind fun r => (spec_l1In (gt l t4).Thing 1 999).bind fun r2 => (bif (!r2) then some (.inr (.ret false)) else (spec_l1In (gt l t4).Holder 1 5).bind fun r3 => (bif (!r3) then some (.inr (.ret false)) else (spec_l1In (gt l t4).Who 0 999).bind fun r4 => (bif (!r4) then some (.inr (.ret false)) else (spec_l1In (gt l t4).At 0 100000).bind fun r5 => (bif (!r5) then some (.inr (.ret false)) else (bif (!decide ((gt l t4).Seal = r)) then some (.inr (.ret false)) else (bif (decide (0 < t4)) then nd (inb l (w64 (t4 - 1))) <| (bif (decide ((gt l t4).At < (gt l (w64 (t4 - 1))).At)) then some (.inr (.ret false)) else (spec_l16Last l (gt l t4).Thing t4).bind fun r6 => (bif (decide (r6 < 0)) then (bif (decide (2 < (gt l t4).Holder)) then some (.inr (.ret false)) else (bif (decide (0 ≤ r6)) then (bif (decide ((gt l t4).Holder = 1)) then some (.inr (.ret false)) else nd (inb l r6) <| (bif (decide (3 ≤ (gt l r6).Holder)) then some (.inr (.ret false)) else some (.inl (r, w64 (t4 + 1))))) else some (.inl (r, w64 (t4 + 1))))) else (bif (decide (0 ≤ r6)) then (bif (decide ((gt l t4).Holder = 1)) then some (.inr (.ret false)) else nd (inb l r6) <| (bif (decide (3 ≤ (gt l r6).Holder)) then some (.inr (.ret false)) else some (.inl (r, w64 (t4 + 1))))) else some (.inl (r, w64 (t4 + 1)))))) else (spec_l16Last l (gt l t4).Thing t4).bind fun r7 => (bif (decide (r7 < 0)) then (bif (decide (2 < (gt l t4).Holder)) then some (.inr (.ret false)) else (bif (decide (0 ≤ r7)) then (bif (decide ((gt l t4).Holder = 1)) then some (.inr (.ret false)) else nd (inb l r7) <| (bif (decide (3 ≤ (gt l r7).Holder)) then some (.inr (.ret false)) else some (.inl (r, w64 (t4 + 1))))) else some (.inl (r, w64 (t4 + 1))))) else (bif (decide (0 ≤ r7)) then (bif (decide ((gt l t4).Holder = 1)) then some (.inr (.ret false)) else nd (inb l r7) <| (bif (decide (3 ≤ (gt l r7).Holder)) then some (.inr (.ret false)) else some (.inl (r, w64 (t4 + 1))))) else some (.inl (r, w64 (t4 + 1))))))))))) else some (.inr (.brk ()))) else some (.inr (.brk ()))
noncomputable def spec_IsChain (l : List Hand) : Option Bool := (run (spec_IsChain_l3 l) (0, 0)).bind (evO (fun r => some r) fun b => some (decide (ln l ≤ 100)))
noncomputable def spec_StayHours_l4 (l : List Hand) (now : Int) (vh : List Hand) : (Int × Int) → Option ((Int × Int) ⊕ Int) := fun (vn, i) => bif (decide (i < ln vh)) then (spec_IsChain l).bind fun r => (bif r then (spec_l1In now 0 100000).bind fun r2 => (bif r2 then (bif (decide (w64 (i + 1) < ln vh)) then nd (inb vh (w64 (i + 1))) <| (spec_Min now (gt vh (w64 (i + 1))).At).bind fun r3 => nd (inb vh i) <| (bif (decide ((gt vh i).Holder = 2)) then (spec_Max 0 (w64 (r3 - (gt vh i).At))).bind fun r4 => some (.inl (w64 (vn + r4), w64 (i + 1))) else some (.inl (vn, w64 (i + 1)))) else nd (inb vh i) <| (bif (decide ((gt vh i).Holder = 2)) then (spec_Max 0 (w64 (now - (gt vh i).At))).bind fun r5 => some (.inl (w64 (vn + r5), w64 (i + 1))) else some (.inl (vn, w64 (i + 1))))) else some (.inr vn)) else some (.inr vn)) else some (.inr vn)
noncomputable def spec_StayHours (l : List Hand) (thing : Int) (now : Int) : Option Int := (spec_HandsOf l thing).bind fun r => (run (spec_StayHours_l4 l now r) (0, 0)).bind fun b => some b
noncomputable def impl_Mod (p : Int) (q : Int) : Option Int := (impl_InRange q 1 1000000000000).bind fun r => (bif (!r) then some 0 else nd (!decide (q = 0)) <| (bif (decide ((p.tmod q) < 0)) then some (w64 ((p.tmod q) + q)) else some (p.tmod q)))
noncomputable def impl_fold (acc : Int) (v : Int) : Option Int := (impl_Mod v 2147483647).bind fun r => some ((w64 ((w64 ((w64 (acc * 1000003)) + r)) + 13)).tmod 2147483647)
noncomputable def impl_Hash_l3 (t6 : List Int) (t7 : Int) : (Int × Int) → Option ((Int × Int) ⊕ Int) := fun (acc, t8) => bif (decide (t8 < t7)) then nd (inb t6 t8) <| (impl_fold acc (gt t6 t8)).bind fun r => some (.inl (r, w64 (t8 + 1))) else some (.inr acc)
noncomputable def impl_Hash (values : List Int) : Option Int := (run (impl_Hash_l3 values (ln values)) (11, 0)).bind fun b => some b
noncomputable def impl_HandSeal (before : Int) (x : Hand) : Option Int := (impl_Hash [before, x.Thing, x.Holder, x.Who, x.At]).bind fun r => some r
noncomputable def laws_szMarkS (a : List Mark) (left : Int) : Option Int := bif (decide (w64 (left - (ln a)) < 0)) then some (-1) else some (w64 (left - (ln a)))
noncomputable def laws_szBidS (a : List Bid) (left : Int) : Option Int := bif (decide (w64 (left - (ln a)) < 0)) then some (-1) else some (w64 (left - (ln a)))
noncomputable def laws_szEvent (a : Event) (left : Int) : Option Int := (laws_szMarkS a.Marks left).bind fun r => (bif (decide (r < 0)) then some (-1) else (laws_szBidS a.Bids r).bind fun r2 => (bif (decide (r2 < 0)) then some (-1) else some r2))
noncomputable def laws_szEventS_l5 (a : List Event) : (Int × Int) → Option ((Int × Int) ⊕ (Fl Int Int)) := fun (left, i) => bif (decide (i < ln a)) then nd (inb a i) <| (laws_szEvent (gt a i) left).bind fun r => (bif (decide (r < 0)) then some (.inr (.ret (-1))) else some (.inl (r, w64 (i + 1)))) else some (.inr (.brk left))
noncomputable def laws_szEventS (a : List Event) (left : Int) : Option Int := bif (decide (w64 (left - (ln a)) < 0)) then some (-1) else (run (laws_szEventS_l5 a) (w64 (left - (ln a)), 0)).bind (evO (fun r => some r) fun b => some b)
noncomputable def laws_toMark (a : Mark) : Option Mark := some a
noncomputable def laws_toMarkS_l3 (a : List Mark) : ((List Mark) × Int) → Option (((List Mark) × Int) ⊕ (List Mark)) := fun (out, i) => bif (decide (i < ln a)) then nd (inb a i) <| (laws_toMark (gt a i)).bind fun r => nd (inb out i) <| some (.inl (out.set i.toNat r, w64 (i + 1))) else some (.inr out)
noncomputable def laws_toMarkS (a : List Mark) : Option (List Mark) := nd (mkB (ln a) 16) <| (run (laws_toMarkS_l3 a) (List.replicate (ln a).toNat (⟨0, 0⟩ : Mark), 0)).bind fun b => some b
noncomputable def laws_toBid (a : Bid) : Option Bid := some a
noncomputable def laws_toBidS_l3 (a : List Bid) : ((List Bid) × Int) → Option (((List Bid) × Int) ⊕ (List Bid)) := fun (out, i) => bif (decide (i < ln a)) then nd (inb a i) <| (laws_toBid (gt a i)).bind fun r => nd (inb out i) <| some (.inl (out.set i.toNat r, w64 (i + 1))) else some (.inr out)
noncomputable def laws_toBidS (a : List Bid) : Option (List Bid) := nd (mkB (ln a) 24) <| (run (laws_toBidS_l3 a) (List.replicate (ln a).toNat (⟨0, 0, 0⟩ : Bid), 0)).bind fun b => some b
noncomputable def laws_toEvent (a : Event) : Option Event := (laws_toFind a.Find).bind fun r => (laws_toMarkS a.Marks).bind fun r2 => (laws_toBidS a.Bids).bind fun r3 => some (⟨a.Kind, r, r2, a.Id, a.Who, a.N, r3⟩ : Event)
noncomputable def laws_eqHand (a : Hand) (b : Hand) : Option Bool := bif (!decide (a.Thing = b.Thing)) then some false else (bif (!decide (a.Holder = b.Holder)) then some false else (bif (!decide (a.Who = b.Who)) then some false else (bif (!decide (a.At = b.At)) then some false else (bif (!decide (a.Seal = b.Seal)) then some false else some true))))
noncomputable def laws_eqHandS_l4 (a : List Hand) (b : List Hand) : Int → Option (Int ⊕ (Fl Bool Unit)) := fun i => bif (decide (i < ln a)) then nd (inb a i) <| nd (inb b i) <| (laws_eqHand (gt a i) (gt b i)).bind fun r => (bif (!r) then some (.inr (.ret false)) else some (.inl (w64 (i + 1)))) else some (.inr (.brk ()))
noncomputable def laws_eqHandS (a : List Hand) (b : List Hand) : Option Bool := bif (!decide (ln a = ln b)) then some false else (run (laws_eqHandS_l4 a b) 0).bind (evO (fun r => some r) fun b2 => some true)
noncomputable def spec_CountEvents_l3 (list : List Event) (kind : Int) : (Int × Int) → Option ((Int × Int) ⊕ Int) := fun (vn, i) => bif (decide (i < ln list)) then nd (inb list i) <| (bif (decide ((gt list i).Kind = kind)) then some (.inl (w64 (vn + 1), w64 (i + 1))) else some (.inl (vn, w64 (i + 1)))) else some (.inr vn)
noncomputable def spec_CountEvents (list : List Event) (kind : Int) : Option Int := (run (spec_CountEvents_l3 list kind) (0, 0)).bind fun b => some b
noncomputable def impl_CountEvents_l3 (kind : Int) (t8 : List Event) (t9 : Int) : (Int × Int) → Option ((Int × Int) ⊕ Int) := fun (vn, t10) => bif (decide (t10 < t9)) then nd (inb t8 t10) <| (bif (decide ((gt t8 t10).Kind = kind)) then some (.inl (w64 (vn + 1), w64 (t10 + 1))) else some (.inl (vn, w64 (t10 + 1)))) else some (.inr vn)
noncomputable def impl_CountEvents (list : List Event) (kind : Int) : Option Int := (run (impl_CountEvents_l3 kind list (ln list)) (0, 0)).bind fun b => some b
noncomputable def laws_eqMark (a : Mark) (b : Mark) : Option Bool := bif (!decide (a.Question = b.Question)) then some false else (bif (!decide (a.Answer = b.Answer)) then some false else some true)
noncomputable def laws_eqMarkS_l4 (a : List Mark) (b : List Mark) : Int → Option (Int ⊕ (Fl Bool Unit)) := fun i => bif (decide (i < ln a)) then nd (inb a i) <| nd (inb b i) <| (laws_eqMark (gt a i) (gt b i)).bind fun r => (bif (!r) then some (.inr (.ret false)) else some (.inl (w64 (i + 1)))) else some (.inr (.brk ()))
noncomputable def laws_eqMarkS (a : List Mark) (b : List Mark) : Option Bool := bif (!decide (ln a = ln b)) then some false else (run (laws_eqMarkS_l4 a b) 0).bind (evO (fun r => some r) fun b2 => some true)
noncomputable def laws_eqBid (a : Bid) (b : Bid) : Option Bool := bif (!decide (a.Who = b.Who)) then some false else (bif (!decide (a.Cents = b.Cents)) then some false else (bif (!decide (a.Seal = b.Seal)) then some false else some true))
noncomputable def laws_eqBidS_l4 (a : List Bid) (b : List Bid) : Int → Option (Int ⊕ (Fl Bool Unit)) := fun i => bif (decide (i < ln a)) then nd (inb a i) <| nd (inb b i) <| (laws_eqBid (gt a i) (gt b i)).bind fun r => (bif (!r) then some (.inr (.ret false)) else some (.inl (w64 (i + 1)))) else some (.inr (.brk ()))
noncomputable def laws_eqBidS (a : List Bid) (b : List Bid) : Option Bool := bif (!decide (ln a = ln b)) then some false else (run (laws_eqBidS_l4 a b) 0).bind (evO (fun r => some r) fun b2 => some true)
noncomputable def laws_eqEvent (a : Event) (b : Event) : Option Bool := bif (!decide (a.Kind = b.Kind)) then some false else (laws_eqFind a.Find b.Find).bind fun r => (bif (!r) then some false else (laws_eqMarkS a.Marks b.Marks).bind fun r2 => (bif (!r2) then some false else (bif (!decide (a.Id = b.Id)) then some false else (bif (!decide (a.Who = b.Who)) then some false else (bif (!decide (a.N = b.N)) then some false else (laws_eqBidS a.Bids b.Bids).bind fun r3 => (bif (!r3) then some false else some true))))))
noncomputable def laws_eqEventS_l4 (a : List Event) (b : List Event) : Int → Option (Int ⊕ (Fl Bool Unit)) := fun i => bif (decide (i < ln a)) then nd (inb a i) <| nd (inb b i) <| (laws_eqEvent (gt a i) (gt b i)).bind fun r => (bif (!r) then some (.inr (.ret false)) else some (.inl (w64 (i + 1)))) else some (.inr (.brk ()))
noncomputable def laws_eqEventS (a : List Event) (b : List Event) : Option Bool := bif (!decide (ln a = ln b)) then some false else (run (laws_eqEventS_l4 a b) 0).bind (evO (fun r => some r) fun b2 => some true)
noncomputable def impl_HandsOf_l3 (thing : Int) (t9 : List Hand) (t10 : Int) : ((List Hand) × Int) → Option (((List Hand) × Int) ⊕ (List Hand)) := fun (out, t11) => bif (decide (t11 < t10)) then nd (inb t9 t11) <| (bif (decide ((gt t9 t11).Thing = thing)) then nd (rm (out.length + 1) 40) <| some (.inl (out ++ [gt t9 t11], w64 (t11 + 1))) else some (.inl (out, w64 (t11 + 1)))) else some (.inr out)
noncomputable def impl_HandsOf (l : List Hand) (thing : Int) : Option (List Hand) := (run (impl_HandsOf_l3 thing l (ln l)) ([], 0)).bind fun b => some b
end Go.Proofs.Ytomlnigcnkjelaa
