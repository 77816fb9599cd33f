/- The functions, typed. Definitions. No condition. -/
import Derived.Test.YtcpelionmmnogaaPw
namespace Go.Proofs.Ytcpelionmmnogaa
open Go
set_option linter.unusedVariables false
set_option linter.unusedSimpArgs false
set_option linter.defProp false
set_option maxRecDepth 100000
structure Thing where
  Id : Int
  Kind : Int
  Colour : Int
  Size : Int
  Worth : Int
instance : Inhabited Thing := ⟨⟨0, 0, 0, 0, 0⟩⟩
structure Find where
  Thing : Thing
  Place : Int
  At : Int
  Finder : Int
instance : Inhabited Find := ⟨⟨default, 0, 0, 0⟩⟩
structure Mark where
  Question : Int
  Answer : Int
instance : Inhabited Mark := ⟨⟨0, 0⟩⟩
structure Bid where
  Who : Int
  Cents : Int
  Seal : Int
instance : Inhabited Bid := ⟨⟨0, 0, 0⟩⟩
structure Event where
  Kind : Int
  Find : Find
  Marks : List Mark
  Id : Int
  Who : Int
  N : Int
  Bids : List Bid
instance : Inhabited Event := ⟨⟨0, default, [], 0, 0, 0, []⟩⟩
def okThing (x : Thing) : Prop := i64 x.Id ∧ i64 x.Kind ∧ i64 x.Colour ∧ i64 x.Size ∧ i64 x.Worth
def okFind (x : Find) : Prop := okThing x.Thing ∧ i64 x.Place ∧ i64 x.At ∧ i64 x.Finder
def okMark (x : Mark) : Prop := i64 x.Question ∧ i64 x.Answer
def okBid (x : Bid) : Prop := i64 x.Who ∧ i64 x.Cents ∧ i64 x.Seal
def okEvent (x : Event) : Prop := i64 x.Kind ∧ okFind x.Find ∧ (okL okMark) x.Marks ∧ i64 x.Id ∧ i64 x.Who ∧ i64 x.N ∧ (okL okBid) x.Bids
noncomputable def laws_szFindS (a : List Find) (left : Int) : Option Int := bif (decide (w64 (left - (ln a)) < 0)) then some (-1) else some (w64 (left - (ln a)))
noncomputable def laws_szMarkS (a : List Mark) (left : Int) : Option Int := bif (decide (w64 (left - (ln a)) < 0)) then some (-1) else some (w64 (left - (ln a)))
noncomputable def laws_toThing (a : Thing) : Option Thing := some a
noncomputable def laws_toFind (a : Find) : Option Find := (laws_toThing a.Thing).bind fun r => some (⟨r, a.Place, a.At, a.Finder⟩ : Find)
noncomputable def laws_toFindS_l3 (a : List Find) : ((List Find) × Int) → Option (((List Find) × Int) ⊕ (List Find)) := fun (out, i) => bif (decide (i < ln a)) then nd (inb a i) <| (laws_toFind (gt a i)).bind fun r => nd (inb out i) <| some (.inl (out.set i.toNat r, w64 (i + 1))) else some (.inr out)
noncomputable def laws_toFindS (a : List Find) : Option (List Find) := nd (mkB (ln a) 64) <| (run (laws_toFindS_l3 a) (List.replicate (ln a).toNat (⟨⟨0, 0, 0, 0, 0⟩, 0, 0, 0⟩ : Find), 0)).bind fun b => some b
noncomputable def laws_toMark (a : Mark) : Option Mark := some a
noncomputable def laws_toMarkS_l3 (a : List Mark) : ((List Mark) × Int) → Option (((List Mark) × Int) ⊕ (List Mark)) := fun (out, i) => bif (decide (i < ln a)) then nd (inb a i) <| (laws_toMark (gt a i)).bind fun r => nd (inb out i) <| some (.inl (out.set i.toNat r, w64 (i + 1))) else some (.inr out)
noncomputable def laws_toMarkS (a : List Mark) : Option (List Mark) := nd (mkB (ln a) 16) <| (run (laws_toMarkS_l3 a) (List.replicate (ln a).toNat (⟨0, 0⟩ : Mark), 0)).bind fun b => some b
noncomputable def spec_FindAll_l3 (l : List Find) (marks : List Mark) : ((List Event) × Int) → Option (((List Event) × Int) ⊕ (List Event)) := fun (out, i) => bif (decide (i < ln l)) then nd (inb l i) <| nd (rm (0 + marks.length) 16) <| nd (rm (out.length + 1) 144) <| some (.inl (out ++ [(⟨1, gt l i, marks, 0, 0, 0, []⟩ : Event)], w64 (i + 1))) else some (.inr out)
noncomputable def spec_FindAll (l : List Find) (marks : List Mark) : Option (List Event) := (run (spec_FindAll_l3 l marks) ([], 0)).bind fun b => some b
noncomputable def slices_Clone_Mark (s : List Mark) : Option (List Mark) := nd (rm (0 + s.length) 16) <| some s
noncomputable def impl_FindAll_l3 (marks : List Mark) (t9 : List Find) (t10 : Int) : ((List Event) × Int) → Option (((List Event) × Int) ⊕ (List Event)) := fun (out, t11) => bif (decide (t11 < t10)) then nd (inb t9 t11) <| (slices_Clone_Mark marks).bind fun r => nd (rm (out.length + 1) 144) <| some (.inl (out ++ [(⟨1, gt t9 t11, r, 0, 0, 0, []⟩ : Event)], w64 (t11 + 1))) else some (.inr out)
noncomputable def impl_FindAll (l : List Find) (marks : List Mark) : Option (List Event) := (run (impl_FindAll_l3 marks l (ln l)) ([], 0)).bind fun b => some b
noncomputable def laws_eqThing (a : Thing) (b : Thing) : Option Bool := bif (!decide (a.Id = b.Id)) then some false else (bif (!decide (a.Kind = b.Kind)) then some false else (bif (!decide (a.Colour = b.Colour)) then some false else (bif (!decide (a.Size = b.Size)) then some false else (bif (!decide (a.Worth = b.Worth)) then some false else some true))))
noncomputable def laws_eqFind (a : Find) (b : Find) : Option Bool := (laws_eqThing a.Thing b.Thing).bind fun r => (bif (!r) then some false else (bif (!decide (a.Place = b.Place)) then some false else (bif (!decide (a.At = b.At)) then some false else (bif (!decide (a.Finder = b.Finder)) then some false else some true))))
noncomputable def laws_eqMark (a : Mark) (b : Mark) : Option Bool := bif (!decide (a.Question = b.Question)) then some false else (bif (!decide (a.Answer = b.Answer)) then some false else some true)
noncomputable def laws_eqMarkS_l4 (a : List Mark) (b : List Mark) : Int → Option (Int ⊕ (Fl Bool Unit)) := fun i => bif (decide (i < ln a)) then nd (inb a i) <| nd (inb b i) <| (laws_eqMark (gt a i) (gt b i)).bind fun r => (bif (!r) then some (.inr (.ret false)) else some (.inl (w64 (i + 1)))) else some (.inr (.brk ()))
noncomputable def laws_eqMarkS (a : List Mark) (b : List Mark) : Option Bool := bif (!decide (ln a = ln b)) then some false else (run (laws_eqMarkS_l4 a b) 0).bind (evO (fun r => some r) fun b2 => some true)
noncomputable def laws_eqBid (a : Bid) (b : Bid) : Option Bool := bif (!decide (a.Who = b.Who)) then some false else (bif (!decide (a.Cents = b.Cents)) then some false else (bif (!decide (a.Seal = b.Seal)) then some false else some true))
noncomputable def laws_eqBidS_l4 (a : List Bid) (b : List Bid) : Int → Option (Int ⊕ (Fl Bool Unit)) := fun i => bif (decide (i < ln a)) then nd (inb a i) <| nd (inb b i) <| (laws_eqBid (gt a i) (gt b i)).bind fun r => (bif (!r) then some (.inr (.ret false)) else some (.inl (w64 (i + 1)))) else some (.inr (.brk ()))
noncomputable def laws_eqBidS (a : List Bid) (b : List Bid) : Option Bool := bif (!decide (ln a = ln b)) then some false else (run (laws_eqBidS_l4 a b) 0).bind (evO (fun r => some r) fun b2 => some true)
noncomputable def laws_eqEvent (a : Event) (b : Event) : Option Bool := bif (!decide (a.Kind = b.Kind)) then some false else (laws_eqFind a.Find b.Find).bind fun r => (bif (!r) then some false else (laws_eqMarkS a.Marks b.Marks).bind fun r2 => (bif (!r2) then some false else (bif (!decide (a.Id = b.Id)) then some false else (bif (!decide (a.Who = b.Who)) then some false else (bif (!decide (a.N = b.N)) then some false else (laws_eqBidS a.Bids b.Bids).bind fun r3 => (bif (!r3) then some false else some true))))))
noncomputable def laws_eqEventS_l4 (a : List Event) (b : List Event) : Int → Option (Int ⊕ (Fl Bool Unit)) := fun i => bif (decide (i < ln a)) then nd (inb a i) <| nd (inb b i) <| (laws_eqEvent (gt a i) (gt b i)).bind fun r => (bif (!r) then some (.inr (.ret false)) else some (.inl (w64 (i + 1)))) else some (.inr (.brk ()))
noncomputable def laws_eqEventS (a : List Event) (b : List Event) : Option Bool := bif (!decide (ln a = ln b)) then some false else (run (laws_eqEventS_l4 a b) 0).bind (evO (fun r => some r) fun b2 => some true)
noncomputable def laws_eqFindS_l4 (a : List Find) (b : List Find) : Int → Option (Int ⊕ (Fl Bool Unit)) := fun i => bif (decide (i < ln a)) then nd (inb a i) <| nd (inb b i) <| (laws_eqFind (gt a i) (gt b i)).bind fun r => (bif (!r) then some (.inr (.ret false)) else some (.inl (w64 (i + 1)))) else some (.inr (.brk ()))
noncomputable def laws_eqFindS (a : List Find) (b : List Find) : Option Bool := bif (!decide (ln a = ln b)) then some false else (run (laws_eqFindS_l4 a b) 0).bind (evO (fun r => some r) fun b2 => some true)
noncomputable def laws_markFindS_l2 : ((List Find) × Int × Int) → Option (((List Find) × Int × Int) ⊕ ((List Find) × Int)) := fun (a, t1, t5) => bif (decide (t5 < ln a)) then nd (inb a t5) <| some (.inl (a.set t5.toNat (⟨⟨t1, w64 (t1 + 1), w64 ((w64 (t1 + 1)) + 1), w64 ((w64 ((w64 (t1 + 1)) + 1)) + 1), w64 ((w64 ((w64 ((w64 (t1 + 1)) + 1)) + 1)) + 1)⟩, w64 ((w64 ((w64 ((w64 ((w64 (t1 + 1)) + 1)) + 1)) + 1)) + 1), w64 ((w64 ((w64 ((w64 ((w64 ((w64 (t1 + 1)) + 1)) + 1)) + 1)) + 1)) + 1), w64 ((w64 ((w64 ((w64 ((w64 ((w64 ((w64 (t1 + 1)) + 1)) + 1)) + 1)) + 1)) + 1)) + 1)⟩ : Find), w64 ((w64 ((w64 ((w64 ((w64 ((w64 ((w64 ((w64 (t1 + 1)) + 1)) + 1)) + 1)) + 1)) + 1)) + 1)) + 1), w64 (t5 + 1))) else some (.inr (a, t1))
noncomputable def laws_markFindS (a : List Find) (a2 : Int) : Option ((List Find) × Int) := (run laws_markFindS_l2 (a, a2, 0)).bind fun b => some (b.1, b.2)
noncomputable def laws_markMarkS_l2 : ((List Mark) × Int × Int) → Option (((List Mark) × Int × Int) ⊕ ((List Mark) × Int)) := fun (a, k, i) => bif (decide (i < ln a)) then nd (inb a i) <| some (.inl (a.set i.toNat (⟨k, w64 (k + 1)⟩ : Mark), w64 ((w64 (k + 1)) + 1), w64 (i + 1))) else some (.inr (a, k))
noncomputable def laws_markMarkS (a : List Mark) (k : Int) : Option ((List Mark) × Int) := (run laws_markMarkS_l2 (a, k, 0)).bind fun b => some (b.1, b.2)
noncomputable def laws_markBidS_l2 : ((List Bid) × Int × Int) → Option (((List Bid) × Int × Int) ⊕ ((List Bid) × Int)) := fun (a, k, i) => bif (decide (i < ln a)) then nd (inb a i) <| some (.inl (a.set i.toNat (⟨k, w64 (k + 1), w64 ((w64 (k + 1)) + 1)⟩ : Bid), w64 ((w64 ((w64 (k + 1)) + 1)) + 1), w64 (i + 1))) else some (.inr (a, k))
noncomputable def laws_markBidS (a : List Bid) (k : Int) : Option ((List Bid) × Int) := (run laws_markBidS_l2 (a, k, 0)).bind fun b => some (b.1, b.2)
noncomputable def laws_markEventS_l2 : ((List Event) × Int × Int) → Option (((List Event) × Int × Int) ⊕ ((List Event) × Int)) := fun (a, t1, t5) => bif (decide (t5 < ln a)) then nd (inb a t5) <| (laws_markMarkS (gt a t5).Marks (w64 ((w64 ((w64 ((w64 ((w64 ((w64 ((w64 ((w64 ((w64 (t1 + 1)) + 1)) + 1)) + 1)) + 1)) + 1)) + 1)) + 1)) + 1))).bind fun r => (laws_markBidS (gt a t5).Bids (w64 ((w64 ((w64 (r.2 + 1)) + 1)) + 1))).bind fun r2 => some (.inl (a.set t5.toNat (⟨t1, ⟨⟨w64 (t1 + 1), w64 ((w64 (t1 + 1)) + 1), w64 ((w64 ((w64 (t1 + 1)) + 1)) + 1), w64 ((w64 ((w64 ((w64 (t1 + 1)) + 1)) + 1)) + 1), w64 ((w64 ((w64 ((w64 ((w64 (t1 + 1)) + 1)) + 1)) + 1)) + 1)⟩, w64 ((w64 ((w64 ((w64 ((w64 ((w64 (t1 + 1)) + 1)) + 1)) + 1)) + 1)) + 1), w64 ((w64 ((w64 ((w64 ((w64 ((w64 ((w64 (t1 + 1)) + 1)) + 1)) + 1)) + 1)) + 1)) + 1), w64 ((w64 ((w64 ((w64 ((w64 ((w64 ((w64 ((w64 (t1 + 1)) + 1)) + 1)) + 1)) + 1)) + 1)) + 1)) + 1)⟩, r.1, r.2, w64 (r.2 + 1), w64 ((w64 (r.2 + 1)) + 1), r2.1⟩ : Event), r2.2, w64 (t5 + 1))) else some (.inr (a, t1))
noncomputable def laws_markEventS (a : List Event) (a2 : Int) : Option ((List Event) × Int) := (run laws_markEventS_l2 (a, a2, 0)).bind fun b => some (b.1, b.2)
noncomputable def laws_heldMarkS_l2 (a : List Mark) : (Int × Int) → Option ((Int × Int) ⊕ (Fl Int Int)) := fun (k, i) => bif (decide (i < ln a)) then nd (inb a i) <| (bif (!decide ((gt a i).Question = k)) then some (.inr (.ret (-1))) else (bif (!decide ((gt a i).Answer = w64 (k + 1))) then some (.inr (.ret (-1))) else some (.inl (w64 ((w64 (k + 1)) + 1), w64 (i + 1))))) else some (.inr (.brk k))
noncomputable def laws_heldMarkS (a : List Mark) (k : Int) : Option Int := (run (laws_heldMarkS_l2 a) (k, 0)).bind (evO (fun r => some r) fun b => some b)
noncomputable def laws_heldBidS_l2 (a : List Bid) : (Int × Int) → Option ((Int × Int) ⊕ (Fl Int Int)) := fun (k, i) => bif (decide (i < ln a)) then nd (inb a i) <| (bif (!decide ((gt a i).Who = k)) then some (.inr (.ret (-1))) else (bif (!decide ((gt a i).Cents = w64 (k + 1))) then some (.inr (.ret (-1))) else (bif (!decide ((gt a i).Seal = w64 ((w64 (k + 1)) + 1))) then some (.inr (.ret (-1))) else some (.inl (w64 ((w64 ((w64 (k + 1)) + 1)) + 1), w64 (i + 1)))))) else some (.inr (.brk k))
noncomputable def laws_heldBidS (a : List Bid) (k : Int) : Option Int := (run (laws_heldBidS_l2 a) (k, 0)).bind (evO (fun r => some r) fun b => some b)
noncomputable def laws_heldEventS_l2 (a : List Event) : (Int × Int) → Option ((Int × Int) ⊕ (Fl Int Int)) := fun (t1, t5) => bif (decide (t5 < ln a)) then nd (inb a t5) <| (bif (!decide ((gt a t5).Kind = t1)) then some (.inr (.ret (-1))) else (bif (!decide ((gt a t5).Find.Thing.Id = w64 (t1 + 1))) then some (.inr (.ret (-1))) else (bif (!decide ((gt a t5).Find.Thing.Kind = w64 ((w64 (t1 + 1)) + 1))) then some (.inr (.ret (-1))) else (bif (!decide ((gt a t5).Find.Thing.Colour = w64 ((w64 ((w64 (t1 + 1)) + 1)) + 1))) then some (.inr (.ret (-1))) else (bif (!decide ((gt a t5).Find.Thing.Size = w64 ((w64 ((w64 ((w64 (t1 + 1)) + 1)) + 1)) + 1))) then some (.inr (.ret (-1))) else (bif (!decide ((gt a t5).Find.Thing.Worth = w64 ((w64 ((w64 ((w64 ((w64 (t1 + 1)) + 1)) + 1)) + 1)) + 1))) then some (.inr (.ret (-1))) else (bif (!decide ((gt a t5).Find.Place = w64 ((w64 ((w64 ((w64 ((w64 ((w64 (t1 + 1)) + 1)) + 1)) + 1)) + 1)) + 1))) then some (.inr (.ret (-1))) else (bif (!decide ((gt a t5).Find.At = w64 ((w64 ((w64 ((w64 ((w64 ((w64 ((w64 (t1 + 1)) + 1)) + 1)) + 1)) + 1)) + 1)) + 1))) then some (.inr (.ret (-1))) else (bif (!decide ((gt a t5).Find.Finder = w64 ((w64 ((w64 ((w64 ((w64 ((w64 ((w64 ((w64 (t1 + 1)) + 1)) + 1)) + 1)) + 1)) + 1)) + 1)) + 1))) then some (.inr (.ret (-1))) else (laws_heldMarkS (gt a t5).Marks (w64 ((w64 ((w64 ((w64 ((w64 ((w64 ((w64 ((w64 ((w64 (t1 + 1)) + 1)) + 1)) + 1)) + 1)) + 1)) + 1)) + 1)) + 1))).bind fun r => (bif (decide (r < 0)) then some (.inr (.ret (-1))) else (bif (!decide ((gt a t5).Id = r)) then some (.inr (.ret (-1))) else (bif (!decide ((gt a t5).Who = w64 (r + 1))) then some (.inr (.ret (-1))) else (bif (!decide ((gt a t5).N = w64 ((w64 (r + 1)) + 1))) then some (.inr (.ret (-1))) else (laws_heldBidS (gt a t5).Bids (w64 ((w64 ((w64 (r + 1)) + 1)) + 1))).bind fun r2 => (bif (decide (r2 < 0)) then some (.inr (.ret (-1))) else some (.inl (r2, w64 (t5 + 1))))))))))))))))) else some (.inr (.brk t1))
noncomputable def laws_heldEventS (a : List Event) (a2 : Int) : Option Int := (run (laws_heldEventS_l2 a) (a2, 0)).bind (evO (fun r => some r) fun b => some b)
noncomputable def laws_FnExactFindAll (aL : List Find) (a : List Mark) : Option Bool := (laws_szFindS aL 1048576).bind fun r => (bif (decide (r < 0)) then some true else (laws_szMarkS a r).bind fun r2 => (bif (decide (r2 < 0)) then some true else (laws_toFindS aL).bind fun r3 => (laws_toMarkS a).bind fun r4 => (spec_FindAll r3 r4).bind fun r5 => (laws_toFindS aL).bind fun r6 => (laws_toMarkS a).bind fun r7 => (impl_FindAll r6 r7).bind fun r8 => (laws_eqEventS r8 r5).bind fun r9 => (bif (!r9) then some false else (laws_toFindS aL).bind fun r10 => (laws_eqFindS r6 r10).bind fun r11 => (bif (!r11) then some false else (laws_toMarkS a).bind fun r12 => (laws_eqMarkS r7 r12).bind fun r13 => (bif (!r13) then some false else (laws_markFindS r6 1).bind fun r14 => (laws_markMarkS r7 r14.2).bind fun r15 => (bif (decide (r15.2 < 0)) then some true else (laws_eqEventS r8 r5).bind fun r16 => some (!r16)).bind fun b => (bif b then some false else (laws_markEventS r8 1).bind fun r17 => (laws_heldEventS r17.1 1).bind fun r18 => (bif (decide (r18 < 0)) then some false else (bif (!decide (r18 = r17.2)) then some false else (laws_toFindS aL).bind fun r19 => (laws_toMarkS a).bind fun r20 => (impl_FindAll r19 r20).bind fun r21 => (laws_eqEventS r21 r5).bind fun r22 => (bif (!r22) then some false else (laws_heldEventS r17.1 1).bind fun r23 => (bif (decide (r23 < 0)) then some false else (bif (!decide (r23 = r17.2)) then some false else some true)))))))))))
end Go.Proofs.Ytcpelionmmnogaa
