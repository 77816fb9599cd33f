/- Types and values told as the machine has them. No condition. -/
import Derived.Test.YtomlnigcnkjelaaEv3
import Derived.Test.YtomlnigcnkjelaaFn
import Derived.Test.YtomlnigcnkjelaaProg
import Derived.KernelRfl
namespace Go.Proofs.Ytomlnigcnkjelaa
open Go Go.Proofs Go.Proofs.Ytomlnigcnkjelaa.Am
set_option linter.unusedVariables false
set_option linter.unusedSimpArgs false
set_option linter.defProp false
set_option maxRecDepth 100000
def c_i64 (x : Int) : List AV := [.i .i64 x]
theorem e_c_i64 (x : Int) : c_i64 x = [.i .i64 x] := _root_.id rfl
instance (x : Int) : EncR c_i64 [.i .i64 x] x := ⟨rfl⟩
theorem ld_i64 (xs : List Int) : lendRows (xs.map c_i64) = xs.map c_i64 := t_lend (fun x => by simp only [e_c_i64, lendRow, lendc]) xs
theorem cl_i64 (xs : List Int) : cleanRows (xs.map c_i64) = true := t_clean (fun x => by simp only [e_c_i64, cleans, AV.clean, Bool.and_self]) xs
theorem ib_i64 {R : List (List AV)} {xs : List Int} (i : Int) [h : EncL c_i64 R xs] : inb R i = inb xs i := by rw [h.eq, t_inb]
theorem ro_i64 {R : List (List AV)} {xs : List Int} (i : Int) [h : EncL c_i64 R xs] (hi : inb xs i = true) : rowOf R i.toNat = c_i64 (gt xs i) := by rw [h.eq, t_row xs i hi]
def c_u8 (x : Int) : List AV := [.i .u8 x]
theorem e_c_u8 (x : Int) : c_u8 x = [.i .u8 x] := _root_.id rfl
instance (x : Int) : EncR c_u8 [.i .u8 x] x := ⟨rfl⟩
theorem ld_u8 (xs : List Int) : lendRows (xs.map c_u8) = xs.map c_u8 := t_lend (fun x => by simp only [e_c_u8, lendRow, lendc]) xs
theorem cl_u8 (xs : List Int) : cleanRows (xs.map c_u8) = true := t_clean (fun x => by simp only [e_c_u8, cleans, AV.clean, Bool.and_self]) xs
theorem ib_u8 {R : List (List AV)} {xs : List Int} (i : Int) [h : EncL c_u8 R xs] : inb R i = inb xs i := by rw [h.eq, t_inb]
theorem ro_u8 {R : List (List AV)} {xs : List Int} (i : Int) [h : EncL c_u8 R xs] (hi : inb xs i = true) : rowOf R i.toNat = c_u8 (gt xs i) := by rw [h.eq, t_row xs i hi]
def c_b (x : Bool) : List AV := [.b x]
theorem e_c_b (x : Bool) : c_b x = [.b x] := _root_.id rfl
instance (x : Bool) : EncR c_b [.b x] x := ⟨rfl⟩
theorem ld_b (xs : List Bool) : lendRows (xs.map c_b) = xs.map c_b := t_lend (fun x => by simp only [e_c_b, lendRow, lendc]) xs
theorem cl_b (xs : List Bool) : cleanRows (xs.map c_b) = true := t_clean (fun x => by simp only [e_c_b, cleans, AV.clean, Bool.and_self]) xs
theorem ib_b {R : List (List AV)} {xs : List Bool} (i : Int) [h : EncL c_b R xs] : inb R i = inb xs i := by rw [h.eq, t_inb]
theorem ro_b {R : List (List AV)} {xs : List Bool} (i : Int) [h : EncL c_b R xs] (hi : inb xs i = true) : rowOf R i.toNat = c_b (gt xs i) := by rw [h.eq, t_row xs i hi]
def c_s (x : List UInt8) : List AV := [.s x]
theorem e_c_s (x : List UInt8) : c_s x = [.s x] := _root_.id rfl
instance (x : List UInt8) : EncR c_s [.s x] x := ⟨rfl⟩
theorem ld_s (xs : List (List UInt8)) : lendRows (xs.map c_s) = xs.map c_s := t_lend (fun x => by simp only [e_c_s, lendRow, lendc]) xs
theorem cl_s (xs : List (List UInt8)) : cleanRows (xs.map c_s) = true := t_clean (fun x => by simp only [e_c_s, cleans, AV.clean, Bool.and_self]) xs
theorem ib_s {R : List (List AV)} {xs : List (List UInt8)} (i : Int) [h : EncL c_s R xs] : inb R i = inb xs i := by rw [h.eq, t_inb]
theorem ro_s {R : List (List AV)} {xs : List (List UInt8)} (i : Int) [h : EncL c_s R xs] (hi : inb xs i = true) : rowOf R i.toNat = c_s (gt xs i) := by rw [h.eq, t_row xs i hi]
def cHand (x : Hand) : List AV := [.i .i64 x.Thing, .i .i64 x.Holder, .i .i64 x.Who, .i .i64 x.At, .i .i64 x.Seal]
theorem e_cHand (x : Hand) : cHand x = [.i .i64 x.Thing, .i .i64 x.Holder, .i .i64 x.Who, .i .i64 x.At, .i .i64 x.Seal] := _root_.id rfl
instance (yxThing : Int) (yxHolder : Int) (yxWho : Int) (yxAt : Int) (yxSeal : Int)  : EncR cHand [.i .i64 yxThing, .i .i64 yxHolder, .i .i64 yxWho, .i .i64 yxAt, .i .i64 yxSeal] (⟨yxThing, yxHolder, yxWho, yxAt, yxSeal⟩ : Hand) := ⟨by rfl⟩
theorem ld_Hand (xs : List Hand) : lendRows (xs.map cHand) = xs.map cHand := t_lend (fun x => by simp only [e_cHand, lendRow, lendc]) xs
theorem cl_Hand (xs : List Hand) : cleanRows (xs.map cHand) = true := t_clean (fun x => by simp only [e_cHand, cleans, AV.clean, Bool.and_self]) xs
theorem et_Hand (x : Hand) : (⟨x.Thing, x.Holder, x.Who, x.At, x.Seal⟩ : Hand) = x := _root_.id rfl
def cThing (x : Thing) : List AV := [.i .i64 x.Id, .i .i64 x.Kind, .i .i64 x.Colour, .i .i64 x.Size, .i .i64 x.Worth]
theorem e_cThing (x : Thing) : cThing x = [.i .i64 x.Id, .i .i64 x.Kind, .i .i64 x.Colour, .i .i64 x.Size, .i .i64 x.Worth] := _root_.id rfl
instance (yxId : Int) (yxKind : Int) (yxColour : Int) (yxSize : Int) (yxWorth : Int)  : EncR cThing [.i .i64 yxId, .i .i64 yxKind, .i .i64 yxColour, .i .i64 yxSize, .i .i64 yxWorth] (⟨yxId, yxKind, yxColour, yxSize, yxWorth⟩ : Thing) := ⟨by rfl⟩
theorem ld_Thing (xs : List Thing) : lendRows (xs.map cThing) = xs.map cThing := t_lend (fun x => by simp only [e_cThing, lendRow, lendc]) xs
theorem cl_Thing (xs : List Thing) : cleanRows (xs.map cThing) = true := t_clean (fun x => by simp only [e_cThing, cleans, AV.clean, Bool.and_self]) xs
theorem et_Thing (x : Thing) : (⟨x.Id, x.Kind, x.Colour, x.Size, x.Worth⟩ : Thing) = x := _root_.id rfl
def cFind (x : Find) : List AV := [.i .i64 x.Thing.Id, .i .i64 x.Thing.Kind, .i .i64 x.Thing.Colour, .i .i64 x.Thing.Size, .i .i64 x.Thing.Worth, .i .i64 x.Place, .i .i64 x.At, .i .i64 x.Finder]
theorem e_cFind (x : Find) : cFind x = [.i .i64 x.Thing.Id, .i .i64 x.Thing.Kind, .i .i64 x.Thing.Colour, .i .i64 x.Thing.Size, .i .i64 x.Thing.Worth, .i .i64 x.Place, .i .i64 x.At, .i .i64 x.Finder] := _root_.id rfl
instance (yxThingxId : Int) (yxThingxKind : Int) (yxThingxColour : Int) (yxThingxSize : Int) (yxThingxWorth : Int) (yxPlace : Int) (yxAt : Int) (yxFinder : Int)  : EncR cFind [.i .i64 yxThingxId, .i .i64 yxThingxKind, .i .i64 yxThingxColour, .i .i64 yxThingxSize, .i .i64 yxThingxWorth, .i .i64 yxPlace, .i .i64 yxAt, .i .i64 yxFinder] (⟨⟨yxThingxId, yxThingxKind, yxThingxColour, yxThingxSize, yxThingxWorth⟩, yxPlace, yxAt, yxFinder⟩ : Find) := ⟨by rfl⟩
theorem ld_Find (xs : List Find) : lendRows (xs.map cFind) = xs.map cFind := t_lend (fun x => by simp only [e_cFind, lendRow, lendc]) xs
theorem cl_Find (xs : List Find) : cleanRows (xs.map cFind) = true := t_clean (fun x => by simp only [e_cFind, cleans, AV.clean, Bool.and_self]) xs
theorem et_Find (x : Find) : (⟨x.Thing, x.Place, x.At, x.Finder⟩ : Find) = x := _root_.id rfl
def cMark (x : Mark) : List AV := [.i .i64 x.Question, .i .i64 x.Answer]
theorem e_cMark (x : Mark) : cMark x = [.i .i64 x.Question, .i .i64 x.Answer] := _root_.id rfl
instance (yxQuestion : Int) (yxAnswer : Int)  : EncR cMark [.i .i64 yxQuestion, .i .i64 yxAnswer] (⟨yxQuestion, yxAnswer⟩ : Mark) := ⟨by rfl⟩
theorem ld_Mark (xs : List Mark) : lendRows (xs.map cMark) = xs.map cMark := t_lend (fun x => by simp only [e_cMark, lendRow, lendc]) xs
theorem cl_Mark (xs : List Mark) : cleanRows (xs.map cMark) = true := t_clean (fun x => by simp only [e_cMark, cleans, AV.clean, Bool.and_self]) xs
theorem et_Mark (x : Mark) : (⟨x.Question, x.Answer⟩ : Mark) = x := _root_.id rfl
def cBid (x : Bid) : List AV := [.i .i64 x.Who, .i .i64 x.Cents, .i .i64 x.Seal]
theorem e_cBid (x : Bid) : cBid x = [.i .i64 x.Who, .i .i64 x.Cents, .i .i64 x.Seal] := _root_.id rfl
instance (yxWho : Int) (yxCents : Int) (yxSeal : Int)  : EncR cBid [.i .i64 yxWho, .i .i64 yxCents, .i .i64 yxSeal] (⟨yxWho, yxCents, yxSeal⟩ : Bid) := ⟨by rfl⟩
theorem ld_Bid (xs : List Bid) : lendRows (xs.map cBid) = xs.map cBid := t_lend (fun x => by simp only [e_cBid, lendRow, lendc]) xs
theorem cl_Bid (xs : List Bid) : cleanRows (xs.map cBid) = true := t_clean (fun x => by simp only [e_cBid, cleans, AV.clean, Bool.and_self]) xs
theorem et_Bid (x : Bid) : (⟨x.Who, x.Cents, x.Seal⟩ : Bid) = x := _root_.id rfl
def cEvent (x : Event) : List AV := [.i .i64 x.Kind, .i .i64 x.Find.Thing.Id, .i .i64 x.Find.Thing.Kind, .i .i64 x.Find.Thing.Colour, .i .i64 x.Find.Thing.Size, .i .i64 x.Find.Thing.Worth, .i .i64 x.Find.Place, .i .i64 x.Find.At, .i .i64 x.Find.Finder, .imm 2 (x.Marks.map cMark), .i .i64 x.Id, .i .i64 x.Who, .i .i64 x.N, .imm 3 (x.Bids.map cBid)]
theorem e_cEvent (x : Event) : cEvent x = [.i .i64 x.Kind, .i .i64 x.Find.Thing.Id, .i .i64 x.Find.Thing.Kind, .i .i64 x.Find.Thing.Colour, .i .i64 x.Find.Thing.Size, .i .i64 x.Find.Thing.Worth, .i .i64 x.Find.Place, .i .i64 x.Find.At, .i .i64 x.Find.Finder, .imm 2 (x.Marks.map cMark), .i .i64 x.Id, .i .i64 x.Who, .i .i64 x.N, .imm 3 (x.Bids.map cBid)] := _root_.id rfl
instance (yxKind : Int) (yxFindxThingxId : Int) (yxFindxThingxKind : Int) (yxFindxThingxColour : Int) (yxFindxThingxSize : Int) (yxFindxThingxWorth : Int) (yxFindxPlace : Int) (yxFindxAt : Int) (yxFindxFinder : Int) {R1} {yxMarks : List Mark} (yxId : Int) (yxWho : Int) (yxN : Int) {R2} {yxBids : List Bid} [H1 : EncL cMark R1 yxMarks] [H2 : EncL cBid R2 yxBids] : EncR cEvent [.i .i64 yxKind, .i .i64 yxFindxThingxId, .i .i64 yxFindxThingxKind, .i .i64 yxFindxThingxColour, .i .i64 yxFindxThingxSize, .i .i64 yxFindxThingxWorth, .i .i64 yxFindxPlace, .i .i64 yxFindxAt, .i .i64 yxFindxFinder, .imm 2 R1, .i .i64 yxId, .i .i64 yxWho, .i .i64 yxN, .imm 3 R2] (⟨yxKind, ⟨⟨yxFindxThingxId, yxFindxThingxKind, yxFindxThingxColour, yxFindxThingxSize, yxFindxThingxWorth⟩, yxFindxPlace, yxFindxAt, yxFindxFinder⟩, yxMarks, yxId, yxWho, yxN, yxBids⟩ : Event) := ⟨by obtain ⟨rfl⟩ := H1; obtain ⟨rfl⟩ := H2; rfl⟩
def cEventO (x : Event) : List AV := [.i .i64 x.Kind, .i .i64 x.Find.Thing.Id, .i .i64 x.Find.Thing.Kind, .i .i64 x.Find.Thing.Colour, .i .i64 x.Find.Thing.Size, .i .i64 x.Find.Thing.Worth, .i .i64 x.Find.Place, .i .i64 x.Find.At, .i .i64 x.Find.Finder, .own 2 (x.Marks.map cMark), .i .i64 x.Id, .i .i64 x.Who, .i .i64 x.N, .own 3 (x.Bids.map cBid)]
theorem e_cEventO (x : Event) : cEventO x = [.i .i64 x.Kind, .i .i64 x.Find.Thing.Id, .i .i64 x.Find.Thing.Kind, .i .i64 x.Find.Thing.Colour, .i .i64 x.Find.Thing.Size, .i .i64 x.Find.Thing.Worth, .i .i64 x.Find.Place, .i .i64 x.Find.At, .i .i64 x.Find.Finder, .own 2 (x.Marks.map cMark), .i .i64 x.Id, .i .i64 x.Who, .i .i64 x.N, .own 3 (x.Bids.map cBid)] := _root_.id rfl
instance (yxKind : Int) (yxFindxThingxId : Int) (yxFindxThingxKind : Int) (yxFindxThingxColour : Int) (yxFindxThingxSize : Int) (yxFindxThingxWorth : Int) (yxFindxPlace : Int) (yxFindxAt : Int) (yxFindxFinder : Int) {R1} {yxMarks : List Mark} (yxId : Int) (yxWho : Int) (yxN : Int) {R2} {yxBids : List Bid} [H1 : EncL cMark R1 yxMarks] [H2 : EncL cBid R2 yxBids] : EncR cEventO [.i .i64 yxKind, .i .i64 yxFindxThingxId, .i .i64 yxFindxThingxKind, .i .i64 yxFindxThingxColour, .i .i64 yxFindxThingxSize, .i .i64 yxFindxThingxWorth, .i .i64 yxFindxPlace, .i .i64 yxFindxAt, .i .i64 yxFindxFinder, .own 2 R1, .i .i64 yxId, .i .i64 yxWho, .i .i64 yxN, .own 3 R2] (⟨yxKind, ⟨⟨yxFindxThingxId, yxFindxThingxKind, yxFindxThingxColour, yxFindxThingxSize, yxFindxThingxWorth⟩, yxFindxPlace, yxFindxAt, yxFindxFinder⟩, yxMarks, yxId, yxWho, yxN, yxBids⟩ : Event) := ⟨by obtain ⟨rfl⟩ := H1; obtain ⟨rfl⟩ := H2; rfl⟩
theorem ld_Event (xs : List Event) : lendRows (xs.map cEventO) = xs.map cEvent := t_lend (fun x => by simp only [e_cEventO, e_cEvent, lendRow, lendc, ld_Bid, ld_Mark]) xs
theorem cl_Event (xs : List Event) : cleanRows (xs.map cEventO) = true := t_clean (fun x => by simp only [e_cEventO, cleans, AV.clean, Bool.and_self, cl_Bid, cl_Mark]) xs
theorem et_Event (x : Event) : (⟨x.Kind, x.Find, x.Marks, x.Id, x.Who, x.N, x.Bids⟩ : Event) = x := _root_.id rfl
def encs := And.intro @e_c_i64 <| And.intro @ld_i64 <| And.intro @cl_i64 <| And.intro @ib_i64 <| And.intro @ro_i64 <| And.intro @e_c_u8 <| And.intro @ld_u8 <| And.intro @cl_u8 <| And.intro @ib_u8 <| And.intro @ro_u8 <| And.intro @e_c_b <| And.intro @ld_b <| And.intro @cl_b <| And.intro @ib_b <| And.intro @ro_b <| And.intro @e_c_s <| And.intro @ld_s <| And.intro @cl_s <| And.intro @ib_s <| And.intro @ro_s <| And.intro @e_cHand <| And.intro @ld_Hand <| And.intro @cl_Hand <| And.intro @et_Hand <| And.intro @e_cThing <| And.intro @ld_Thing <| And.intro @cl_Thing <| And.intro @et_Thing <| And.intro @e_cFind <| And.intro @ld_Find <| And.intro @cl_Find <| And.intro @et_Find <| And.intro @e_cMark <| And.intro @ld_Mark <| And.intro @cl_Mark <| And.intro @et_Mark <| And.intro @e_cBid <| And.intro @ld_Bid <| And.intro @cl_Bid <| And.intro @et_Bid <| And.intro @e_cEvent <| And.intro @ld_Event <| And.intro @cl_Event <| And.intro @et_Event @e_cEventO
theorem ty0 : flT Try.prog 76 = false := by kernel_rfl
theorem ty1 : slz Try.prog 9 76 = [0, 0, 0, 0, 0, 0, 0, 0, 0, 2, 0, 0, 0, 3] := by kernel_rfl
theorem ty2 : slzE Try.prog 25 = [0, 0, 0, 0, 0] := by kernel_rfl
theorem ty3 : slzE Try.prog 32 = [0, 0, 0, 0, 0, 0, 0, 0] := by kernel_rfl
theorem ty4 : slzE Try.prog 41 = [0, 0, 0, 0, 0, 0, 0, 0, 0, 2, 0, 0, 0, 3] := by kernel_rfl
theorem ty5 : slzE Try.prog 64 = [0] := by kernel_rfl
theorem ty6 : slzE Try.prog 73 = [0, 0] := by kernel_rfl
theorem ty7 : slzE Try.prog 74 = [0, 0, 0] := by kernel_rfl
theorem ty8 : slzE Try.prog 79 = [0] := by kernel_rfl
theorem ty9 : tb Try.prog 3 = some 8 := by kernel_rfl
theorem ty10 : tb Try.prog 48 = some 40 := by kernel_rfl
theorem ty11 : tb Try.prog 56 = some 64 := by kernel_rfl
theorem ty12 : tb Try.prog 76 = some 144 := by kernel_rfl
theorem ty13 : tb Try.prog 94 = some 16 := by kernel_rfl
theorem ty14 : tb Try.prog 98 = some 24 := by kernel_rfl
theorem ty15 : tbd Try.prog 80 = .arr [.s [], .s [], .s [], .s [], .s []] 1 := by kernel_rfl
theorem ty16 : tfo Try.prog 100 0 = some (0, .one) := by kernel_rfl
theorem ty17 : tfo Try.prog 100 1 = some (1, .one) := by kernel_rfl
theorem ty18 : tfo Try.prog 100 2 = some (2, .one) := by kernel_rfl
theorem ty19 : tfo Try.prog 48 0 = some (0, .one) := by kernel_rfl
theorem ty20 : tfo Try.prog 48 1 = some (1, .one) := by kernel_rfl
theorem ty21 : tfo Try.prog 48 2 = some (2, .one) := by kernel_rfl
theorem ty22 : tfo Try.prog 48 3 = some (3, .one) := by kernel_rfl
theorem ty23 : tfo Try.prog 48 4 = some (4, .one) := by kernel_rfl
theorem ty24 : tfo Try.prog 50 0 = some (0, .one) := by kernel_rfl
theorem ty25 : tfo Try.prog 50 1 = some (1, .one) := by kernel_rfl
theorem ty26 : tfo Try.prog 50 2 = some (2, .one) := by kernel_rfl
theorem ty27 : tfo Try.prog 50 3 = some (3, .one) := by kernel_rfl
theorem ty28 : tfo Try.prog 50 4 = some (4, .one) := by kernel_rfl
theorem ty29 : tfo Try.prog 54 0 = some (0, .one) := by kernel_rfl
theorem ty30 : tfo Try.prog 54 1 = some (1, .one) := by kernel_rfl
theorem ty31 : tfo Try.prog 54 2 = some (2, .one) := by kernel_rfl
theorem ty32 : tfo Try.prog 54 3 = some (3, .one) := by kernel_rfl
theorem ty33 : tfo Try.prog 54 4 = some (4, .one) := by kernel_rfl
theorem ty34 : tfo Try.prog 56 0 = some (0, .agg 5) := by kernel_rfl
theorem ty35 : tfo Try.prog 56 1 = some (5, .one) := by kernel_rfl
theorem ty36 : tfo Try.prog 56 2 = some (6, .one) := by kernel_rfl
theorem ty37 : tfo Try.prog 56 3 = some (7, .one) := by kernel_rfl
theorem ty38 : tfo Try.prog 58 0 = some (0, .one) := by kernel_rfl
theorem ty39 : tfo Try.prog 58 1 = some (1, .one) := by kernel_rfl
theorem ty40 : tfo Try.prog 58 2 = some (2, .one) := by kernel_rfl
theorem ty41 : tfo Try.prog 58 3 = some (3, .one) := by kernel_rfl
theorem ty42 : tfo Try.prog 58 4 = some (4, .one) := by kernel_rfl
theorem ty43 : tfo Try.prog 60 0 = some (0, .agg 5) := by kernel_rfl
theorem ty44 : tfo Try.prog 60 1 = some (5, .one) := by kernel_rfl
theorem ty45 : tfo Try.prog 60 2 = some (6, .one) := by kernel_rfl
theorem ty46 : tfo Try.prog 60 3 = some (7, .one) := by kernel_rfl
theorem ty47 : tfo Try.prog 72 0 = some (0, .one) := by kernel_rfl
theorem ty48 : tfo Try.prog 72 1 = some (1, .agg 8) := by kernel_rfl
theorem ty49 : tfo Try.prog 72 2 = some (9, .one) := by kernel_rfl
theorem ty50 : tfo Try.prog 72 3 = some (10, .one) := by kernel_rfl
theorem ty51 : tfo Try.prog 72 4 = some (11, .one) := by kernel_rfl
theorem ty52 : tfo Try.prog 72 5 = some (12, .one) := by kernel_rfl
theorem ty53 : tfo Try.prog 72 6 = some (13, .one) := by kernel_rfl
theorem ty54 : tfo Try.prog 76 0 = some (0, .one) := by kernel_rfl
theorem ty55 : tfo Try.prog 76 1 = some (1, .agg 8) := by kernel_rfl
theorem ty56 : tfo Try.prog 76 2 = some (9, .one) := by kernel_rfl
theorem ty57 : tfo Try.prog 76 3 = some (10, .one) := by kernel_rfl
theorem ty58 : tfo Try.prog 76 4 = some (11, .one) := by kernel_rfl
theorem ty59 : tfo Try.prog 76 5 = some (12, .one) := by kernel_rfl
theorem ty60 : tfo Try.prog 76 6 = some (13, .one) := by kernel_rfl
theorem ty61 : tfo Try.prog 94 0 = some (0, .one) := by kernel_rfl
theorem ty62 : tfo Try.prog 94 1 = some (1, .one) := by kernel_rfl
theorem ty63 : tfo Try.prog 96 0 = some (0, .one) := by kernel_rfl
theorem ty64 : tfo Try.prog 96 1 = some (1, .one) := by kernel_rfl
theorem ty65 : tfo Try.prog 98 0 = some (0, .one) := by kernel_rfl
theorem ty66 : tfo Try.prog 98 1 = some (1, .one) := by kernel_rfl
theorem ty67 : tfo Try.prog 98 2 = some (2, .one) := by kernel_rfl
theorem ty68 : ti Try.prog 22 = .sl 50 5 := by kernel_rfl
theorem ty69 : ti Try.prog 25 = .sl 48 5 := by kernel_rfl
theorem ty70 : ti Try.prog 29 = .sl 60 8 := by kernel_rfl
theorem ty71 : ti Try.prog 32 = .sl 56 8 := by kernel_rfl
theorem ty72 : ti Try.prog 38 = .sl 72 14 := by kernel_rfl
theorem ty73 : ti Try.prog 41 = .sl 76 14 := by kernel_rfl
theorem ty74 : ti Try.prog 64 = .sl 3 1 := by kernel_rfl
theorem ty75 : ti Try.prog 69 = .sl 96 2 := by kernel_rfl
theorem ty76 : ti Try.prog 70 = .sl 100 3 := by kernel_rfl
theorem ty77 : ti Try.prog 73 = .sl 94 2 := by kernel_rfl
theorem ty78 : ti Try.prog 74 = .sl 98 3 := by kernel_rfl
theorem ty79 : ti Try.prog 79 = .sl 9 1 := by kernel_rfl
theorem ty80 : ti Try.prog 80 = .arr 5 9 1 := by kernel_rfl
theorem ty81 : tk Try.prog 100 = .agg 3 := by kernel_rfl
theorem ty82 : tk Try.prog 3 = .one := by kernel_rfl
theorem ty83 : tk Try.prog 48 = .agg 5 := by kernel_rfl
theorem ty84 : tk Try.prog 50 = .agg 5 := by kernel_rfl
theorem ty85 : tk Try.prog 54 = .agg 5 := by kernel_rfl
theorem ty86 : tk Try.prog 56 = .agg 8 := by kernel_rfl
theorem ty87 : tk Try.prog 58 = .agg 5 := by kernel_rfl
theorem ty88 : tk Try.prog 60 = .agg 8 := by kernel_rfl
theorem ty89 : tk Try.prog 69 = .one := by kernel_rfl
theorem ty90 : tk Try.prog 70 = .one := by kernel_rfl
theorem ty91 : tk Try.prog 72 = .agg 14 := by kernel_rfl
theorem ty92 : tk Try.prog 73 = .one := by kernel_rfl
theorem ty93 : tk Try.prog 74 = .one := by kernel_rfl
theorem ty94 : tk Try.prog 76 = .agg 14 := by kernel_rfl
theorem ty95 : tk Try.prog 80 = .agg 5 := by kernel_rfl
theorem ty96 : tk Try.prog 9 = .one := by kernel_rfl
theorem ty97 : tk Try.prog 94 = .agg 2 := by kernel_rfl
theorem ty98 : tk Try.prog 96 = .agg 2 := by kernel_rfl
theorem ty99 : tk Try.prog 98 = .agg 3 := by kernel_rfl
theorem ty100 : tnoint Try.prog 25 = true := by kernel_rfl
theorem ty101 : tnoint Try.prog 64 = true := by kernel_rfl
theorem ty102 : tse Try.prog 25 = some (48, 5, [.i .i64 0, .i .i64 0, .i .i64 0, .i .i64 0, .i .i64 0]) := by kernel_rfl
theorem ty103 : tse Try.prog 32 = some (56, 8, [.i .i64 0, .i .i64 0, .i .i64 0, .i .i64 0, .i .i64 0, .i .i64 0, .i .i64 0, .i .i64 0]) := by kernel_rfl
theorem ty104 : tse Try.prog 41 = some (76, 14, [.i .i64 0, .i .i64 0, .i .i64 0, .i .i64 0, .i .i64 0, .i .i64 0, .i .i64 0, .i .i64 0, .i .i64 0, .nil, .i .i64 0, .i .i64 0, .i .i64 0, .nil]) := by kernel_rfl
theorem ty105 : tse Try.prog 64 = some (3, 1, [.i .i64 0]) := by kernel_rfl
theorem ty106 : tse Try.prog 73 = some (94, 2, [.i .i64 0, .i .i64 0]) := by kernel_rfl
theorem ty107 : tse Try.prog 74 = some (98, 3, [.i .i64 0, .i .i64 0, .i .i64 0]) := by kernel_rfl
theorem ty108 : tse Try.prog 79 = some (9, 1, [.s []]) := by kernel_rfl
theorem ty109 : tzc Try.prog 48 = some [.i .i64 0, .i .i64 0, .i .i64 0, .i .i64 0, .i .i64 0] := by kernel_rfl
theorem ty110 : tzc Try.prog 54 = some [.i .i64 0, .i .i64 0, .i .i64 0, .i .i64 0, .i .i64 0] := by kernel_rfl
theorem ty111 : tzc Try.prog 56 = some [.i .i64 0, .i .i64 0, .i .i64 0, .i .i64 0, .i .i64 0, .i .i64 0, .i .i64 0, .i .i64 0] := by kernel_rfl
theorem ty112 : tzc Try.prog 76 = some [.i .i64 0, .i .i64 0, .i .i64 0, .i .i64 0, .i .i64 0, .i .i64 0, .i .i64 0, .i .i64 0, .i .i64 0, .nil, .i .i64 0, .i .i64 0, .i .i64 0, .nil] := by kernel_rfl
theorem ty113 : tzc Try.prog 80 = some [.s [], .s [], .s [], .s [], .s []] := by kernel_rfl
theorem ty114 : tzc Try.prog 94 = some [.i .i64 0, .i .i64 0] := by kernel_rfl
theorem ty115 : tzc Try.prog 98 = some [.i .i64 0, .i .i64 0, .i .i64 0] := by kernel_rfl
def tys := And.intro @ty0 <| And.intro @ty1 <| And.intro @ty2 <| And.intro @ty3 <| And.intro @ty4 <| And.intro @ty5 <| And.intro @ty6 <| And.intro @ty7 <| And.intro @ty8 <| And.intro @ty9 <| And.intro @ty10 <| And.intro @ty11 <| And.intro @ty12 <| And.intro @ty13 <| And.intro @ty14 <| And.intro @ty15 <| And.intro @ty16 <| And.intro @ty17 <| And.intro @ty18 <| And.intro @ty19 <| And.intro @ty20 <| And.intro @ty21 <| And.intro @ty22 <| And.intro @ty23 <| And.intro @ty24 <| And.intro @ty25 <| And.intro @ty26 <| And.intro @ty27 <| And.intro @ty28 <| And.intro @ty29 <| And.intro @ty30 <| And.intro @ty31 <| And.intro @ty32 <| And.intro @ty33 <| And.intro @ty34 <| And.intro @ty35 <| And.intro @ty36 <| And.intro @ty37 <| And.intro @ty38 <| And.intro @ty39 <| And.intro @ty40 <| And.intro @ty41 <| And.intro @ty42 <| And.intro @ty43 <| And.intro @ty44 <| And.intro @ty45 <| And.intro @ty46 <| And.intro @ty47 <| And.intro @ty48 <| And.intro @ty49 <| And.intro @ty50 <| And.intro @ty51 <| And.intro @ty52 <| And.intro @ty53 <| And.intro @ty54 <| And.intro @ty55 <| And.intro @ty56 <| And.intro @ty57 <| And.intro @ty58 <| And.intro @ty59 <| And.intro @ty60 <| And.intro @ty61 <| And.intro @ty62 <| And.intro @ty63 <| And.intro @ty64 <| And.intro @ty65 <| And.intro @ty66 <| And.intro @ty67 <| And.intro @ty68 <| And.intro @ty69 <| And.intro @ty70 <| And.intro @ty71 <| And.intro @ty72 <| And.intro @ty73 <| And.intro @ty74 <| And.intro @ty75 <| And.intro @ty76 <| And.intro @ty77 <| And.intro @ty78 <| And.intro @ty79 <| And.intro @ty80 <| And.intro @ty81 <| And.intro @ty82 <| And.intro @ty83 <| And.intro @ty84 <| And.intro @ty85 <| And.intro @ty86 <| And.intro @ty87 <| And.intro @ty88 <| And.intro @ty89 <| And.intro @ty90 <| And.intro @ty91 <| And.intro @ty92 <| And.intro @ty93 <| And.intro @ty94 <| And.intro @ty95 <| And.intro @ty96 <| And.intro @ty97 <| And.intro @ty98 <| And.intro @ty99 <| And.intro @ty100 <| And.intro @ty101 <| And.intro @ty102 <| And.intro @ty103 <| And.intro @ty104 <| And.intro @ty105 <| And.intro @ty106 <| And.intro @ty107 <| And.intro @ty108 <| And.intro @ty109 <| And.intro @ty110 <| And.intro @ty111 <| And.intro @ty112 <| And.intro @ty113 <| And.intro @ty114 @ty115
noncomputable def T : Tld := ⟨Try.prog, [(3, {}), (4, {}), (5, {}), (6, {}), (7, {}), (8, {}), (9, {}), (10, {}), (11, { lp := [(3, ⟨[0, 3, 4], [.s 3 5], [3], [.s 3 5]⟩)], sh := [.z 5] }), (12, {}), (13, { lp := [(4, ⟨[0, 1, 5], [], [], []⟩)], rt := ⟨[4], [], [], []⟩ }), (14, {}), (15, { lp := [(3, ⟨[0, 3, 4], [], [0, 3], []⟩)] }), (16, { lp := [(3, ⟨[0, 3, 4], [.s 3 8], [3], [.s 3 8]⟩)], sh := [.z 8] }), (17, { lp := [(5, ⟨[3, 12, 13, 14], [.s 3 0], [3], [.s 3 0]⟩)] }), (18, { lp := [(4, ⟨[0, 1, 5], [], [], []⟩)], rt := ⟨[4], [], [], []⟩ }), (19, { lp := [(3, ⟨[0, 3, 4], [], [3], []⟩)] }), (20, { lp := [(3, ⟨[3, 6, 7, 8], [], [3], []⟩)] }), (21, { lp := [(4, ⟨[0, 3, 4, 5], [], [3], []⟩)] }), (22, { lp := [(5, ⟨[0, 3, 4, 5], [], [3], []⟩)] }), (23, { lp := [(4, ⟨[0, 2, 7, 8, 9], [.s 8 5], [7], []⟩)] }), (24, { jn := [(2, (19, 12, 19))], lp := [(6, ⟨[2, 7, 8, 24, 25, 26], [.s 8 5], [7], []⟩)] }), (25, { lp := [(5, ⟨[0, 1, 5], [], [1], []⟩)], rt := ⟨[4], [], [], []⟩ }), (26, { lp := [(3, ⟨[0, 1, 5, 6], [], [5], []⟩)] }), (27, { lp := [(3, ⟨[0, 3, 4], [.s 3 14], [3], [.s 3 14]⟩)], sh := [.z 14] }), (28, { lp := [(3, ⟨[1, 5, 8, 9, 10], [], [5], []⟩)] }), (29, { lp := [(4, ⟨[0, 1, 5], [], [], []⟩)], rt := ⟨[4], [], [], []⟩ }), (30, { lp := [(3, ⟨[0, 1, 5, 6], [.s 5 5], [5], [.s 5 5]⟩)], sh := [.z 5] }), (31, {}), (32, {}), (33, { lp := [(2, ⟨[0, 1, 5], [], [], []⟩)], rt := ⟨[4], [], [], []⟩ }), (34, {}), (35, {}), (36, {}), (37, {}), (38, {}), (39, {}), (40, { lp := [(2, ⟨[0, 3], [], [0], []⟩)], rt := ⟨[2], [], [], []⟩ }), (41, { lp := [(3, ⟨[0, 1, 5, 6], [.s 5 1], [5], [.s 5 1]⟩)], sh := [.z 1] }), (42, { lp := [(4, ⟨[0, 8, 9, 10], [], [], []⟩)], rt := ⟨[2], [], [], []⟩ }), (43, { lp := [(3, ⟨[1, 5, 9, 10, 11], [.s 5 1], [5], [.s 5 1]⟩)], sh := [.z 1] }), (44, { lp := [(3, ⟨[0, 3, 4], [], [0], []⟩)], rt := ⟨[2], [], [], []⟩ }), (45, { jn := [(1, (6, 7, 15))] }), (46, { lp := [(5, ⟨[0, 3, 10, 11, 12], [], [], []⟩)], rt := ⟨[2], [], [], []⟩ }), (47, { jn := [(1, (6, 7, 15))] }), (48, { lp := [(3, ⟨[1, 5, 9, 10, 11], [.s 5 5], [5], [.s 5 5]⟩)], sh := [.z 5] }), (49, {}), (50, { sh := [.a [0, 0, 0, 0, 0, 0, 0, 0, 0, 2, 0, 0, 0, 3]] }), (51, {}), (52, {}), (53, {}), (54, { jn := [(1, (2, 3, 21))] }), (55, { jn := [(1, (2, 3, 21))] }), (56, {}), (57, { lp := [(3, ⟨[0, 1, 2, 7, 8], [], [7], []⟩)] }), (58, {}), (59, {}), (60, {}), (61, { lp := [(3, ⟨[0, 3, 4], [.s 3 2], [3], [.s 3 2]⟩)], sh := [.z 2] }), (62, { lp := [(3, ⟨[0, 3, 4], [.s 3 3], [3], [.s 3 3]⟩)], sh := [.z 3] }), (63, { lp := [(4, ⟨[0, 1, 5], [], [], []⟩)], rt := ⟨[4], [], [], []⟩ }), (64, { lp := [(4, ⟨[0, 1, 5], [], [], []⟩)], rt := ⟨[4], [], [], []⟩ }), (65, { jn := [(1, (2, 3, 26))] }), (66, { jn := [(1, (2, 3, 26))] }), (67, { lp := [(3, ⟨[0, 3, 4], [], [3], []⟩)] }), (68, { lp := [(3, ⟨[3, 6, 7, 8], [], [3], []⟩)] }), (69, {}), (70, {}), (71, {}), (72, {}), (73, {}), (74, {}), (75, {})]⟩
theorem TP : T.P = Try.prog := _root_.id rfl
theorem a3 : T.at 3 = some {} := by kernel_rfl
theorem a4 : T.at 4 = some {} := by kernel_rfl
theorem a5 : T.at 5 = some {} := by kernel_rfl
theorem a6 : T.at 6 = some {} := by kernel_rfl
theorem a7 : T.at 7 = some {} := by kernel_rfl
theorem a8 : T.at 8 = some {} := by kernel_rfl
theorem a9 : T.at 9 = some {} := by kernel_rfl
theorem a10 : T.at 10 = some {} := by kernel_rfl
theorem a11 : T.at 11 = some { lp := [(3, ⟨[0, 3, 4], [.s 3 5], [3], [.s 3 5]⟩)], sh := [.z 5] } := by kernel_rfl
theorem a12 : T.at 12 = some {} := by kernel_rfl
theorem a13 : T.at 13 = some { lp := [(4, ⟨[0, 1, 5], [], [], []⟩)], rt := ⟨[4], [], [], []⟩ } := by kernel_rfl
theorem a14 : T.at 14 = some {} := by kernel_rfl
theorem a15 : T.at 15 = some { lp := [(3, ⟨[0, 3, 4], [], [0, 3], []⟩)] } := by kernel_rfl
theorem a16 : T.at 16 = some { lp := [(3, ⟨[0, 3, 4], [.s 3 8], [3], [.s 3 8]⟩)], sh := [.z 8] } := by kernel_rfl
theorem a17 : T.at 17 = some { lp := [(5, ⟨[3, 12, 13, 14], [.s 3 0], [3], [.s 3 0]⟩)] } := by kernel_rfl
theorem a18 : T.at 18 = some { lp := [(4, ⟨[0, 1, 5], [], [], []⟩)], rt := ⟨[4], [], [], []⟩ } := by kernel_rfl
theorem a19 : T.at 19 = some { lp := [(3, ⟨[0, 3, 4], [], [3], []⟩)] } := by kernel_rfl
theorem a20 : T.at 20 = some { lp := [(3, ⟨[3, 6, 7, 8], [], [3], []⟩)] } := by kernel_rfl
theorem a21 : T.at 21 = some { lp := [(4, ⟨[0, 3, 4, 5], [], [3], []⟩)] } := by kernel_rfl
theorem a22 : T.at 22 = some { lp := [(5, ⟨[0, 3, 4, 5], [], [3], []⟩)] } := by kernel_rfl
theorem a23 : T.at 23 = some { lp := [(4, ⟨[0, 2, 7, 8, 9], [.s 8 5], [7], []⟩)] } := by kernel_rfl
theorem a24 : T.at 24 = some { jn := [(2, (19, 12, 19))], lp := [(6, ⟨[2, 7, 8, 24, 25, 26], [.s 8 5], [7], []⟩)] } := by kernel_rfl
theorem a25 : T.at 25 = some { lp := [(5, ⟨[0, 1, 5], [], [1], []⟩)], rt := ⟨[4], [], [], []⟩ } := by kernel_rfl
theorem a26 : T.at 26 = some { lp := [(3, ⟨[0, 1, 5, 6], [], [5], []⟩)] } := by kernel_rfl
theorem a27 : T.at 27 = some { lp := [(3, ⟨[0, 3, 4], [.s 3 14], [3], [.s 3 14]⟩)], sh := [.z 14] } := by kernel_rfl
theorem a28 : T.at 28 = some { lp := [(3, ⟨[1, 5, 8, 9, 10], [], [5], []⟩)] } := by kernel_rfl
theorem a29 : T.at 29 = some { lp := [(4, ⟨[0, 1, 5], [], [], []⟩)], rt := ⟨[4], [], [], []⟩ } := by kernel_rfl
theorem a30 : T.at 30 = some { lp := [(3, ⟨[0, 1, 5, 6], [.s 5 5], [5], [.s 5 5]⟩)], sh := [.z 5] } := by kernel_rfl
theorem a31 : T.at 31 = some {} := by kernel_rfl
theorem a32 : T.at 32 = some {} := by kernel_rfl
theorem a33 : T.at 33 = some { lp := [(2, ⟨[0, 1, 5], [], [], []⟩)], rt := ⟨[4], [], [], []⟩ } := by kernel_rfl
theorem a34 : T.at 34 = some {} := by kernel_rfl
theorem a35 : T.at 35 = some {} := by kernel_rfl
theorem a36 : T.at 36 = some {} := by kernel_rfl
theorem a37 : T.at 37 = some {} := by kernel_rfl
theorem a38 : T.at 38 = some {} := by kernel_rfl
theorem a39 : T.at 39 = some {} := by kernel_rfl
theorem a40 : T.at 40 = some { lp := [(2, ⟨[0, 3], [], [0], []⟩)], rt := ⟨[2], [], [], []⟩ } := by kernel_rfl
theorem a41 : T.at 41 = some { lp := [(3, ⟨[0, 1, 5, 6], [.s 5 1], [5], [.s 5 1]⟩)], sh := [.z 1] } := by kernel_rfl
theorem a42 : T.at 42 = some { lp := [(4, ⟨[0, 8, 9, 10], [], [], []⟩)], rt := ⟨[2], [], [], []⟩ } := by kernel_rfl
theorem a43 : T.at 43 = some { lp := [(3, ⟨[1, 5, 9, 10, 11], [.s 5 1], [5], [.s 5 1]⟩)], sh := [.z 1] } := by kernel_rfl
theorem a44 : T.at 44 = some { lp := [(3, ⟨[0, 3, 4], [], [0], []⟩)], rt := ⟨[2], [], [], []⟩ } := by kernel_rfl
theorem a45 : T.at 45 = some { jn := [(1, (6, 7, 15))] } := by kernel_rfl
theorem a46 : T.at 46 = some { lp := [(5, ⟨[0, 3, 10, 11, 12], [], [], []⟩)], rt := ⟨[2], [], [], []⟩ } := by kernel_rfl
theorem a47 : T.at 47 = some { jn := [(1, (6, 7, 15))] } := by kernel_rfl
theorem a48 : T.at 48 = some { lp := [(3, ⟨[1, 5, 9, 10, 11], [.s 5 5], [5], [.s 5 5]⟩)], sh := [.z 5] } := by kernel_rfl
theorem a49 : T.at 49 = some {} := by kernel_rfl
theorem a50 : T.at 50 = some { sh := [.a [0, 0, 0, 0, 0, 0, 0, 0, 0, 2, 0, 0, 0, 3]] } := by kernel_rfl
theorem a51 : T.at 51 = some {} := by kernel_rfl
theorem a52 : T.at 52 = some {} := by kernel_rfl
theorem a53 : T.at 53 = some {} := by kernel_rfl
theorem a54 : T.at 54 = some { jn := [(1, (2, 3, 21))] } := by kernel_rfl
theorem a55 : T.at 55 = some { jn := [(1, (2, 3, 21))] } := by kernel_rfl
theorem a56 : T.at 56 = some {} := by kernel_rfl
theorem a57 : T.at 57 = some { lp := [(3, ⟨[0, 1, 2, 7, 8], [], [7], []⟩)] } := by kernel_rfl
theorem a58 : T.at 58 = some {} := by kernel_rfl
theorem a59 : T.at 59 = some {} := by kernel_rfl
theorem a60 : T.at 60 = some {} := by kernel_rfl
theorem a61 : T.at 61 = some { lp := [(3, ⟨[0, 3, 4], [.s 3 2], [3], [.s 3 2]⟩)], sh := [.z 2] } := by kernel_rfl
theorem a62 : T.at 62 = some { lp := [(3, ⟨[0, 3, 4], [.s 3 3], [3], [.s 3 3]⟩)], sh := [.z 3] } := by kernel_rfl
theorem a63 : T.at 63 = some { lp := [(4, ⟨[0, 1, 5], [], [], []⟩)], rt := ⟨[4], [], [], []⟩ } := by kernel_rfl
theorem a64 : T.at 64 = some { lp := [(4, ⟨[0, 1, 5], [], [], []⟩)], rt := ⟨[4], [], [], []⟩ } := by kernel_rfl
theorem a65 : T.at 65 = some { jn := [(1, (2, 3, 26))] } := by kernel_rfl
theorem a66 : T.at 66 = some { jn := [(1, (2, 3, 26))] } := by kernel_rfl
theorem a67 : T.at 67 = some { lp := [(3, ⟨[0, 3, 4], [], [3], []⟩)] } := by kernel_rfl
theorem a68 : T.at 68 = some { lp := [(3, ⟨[3, 6, 7, 8], [], [3], []⟩)] } := by kernel_rfl
theorem a69 : T.at 69 = some {} := by kernel_rfl
theorem a70 : T.at 70 = some {} := by kernel_rfl
theorem a71 : T.at 71 = some {} := by kernel_rfl
theorem a72 : T.at 72 = some {} := by kernel_rfl
theorem a73 : T.at 73 = some {} := by kernel_rfl
theorem a74 : T.at 74 = some {} := by kernel_rfl
theorem a75 : T.at 75 = some {} := by kernel_rfl
end Go.Proofs.Ytomlnigcnkjelaa
