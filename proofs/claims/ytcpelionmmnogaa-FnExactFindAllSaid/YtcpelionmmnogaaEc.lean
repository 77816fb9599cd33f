/- Types and values told as the machine has them. No condition. -/
import Derived.Test.YtcpelionmmnogaaEv3
import Derived.Test.YtcpelionmmnogaaFn
import Derived.Test.YtcpelionmmnogaaProg
import Derived.KernelRfl
namespace Go.Proofs.Ytcpelionmmnogaa
open Go Go.Proofs Go.Proofs.Ytcpelionmmnogaa.Am
set_option linter.unusedVariables false
set_option linter.unusedSimpArgs false
set_option linter.defProp false
set_option maxRecDepth 100000
def c_i64 (x : Int) : List AV := [.i .i64 x]
theorem e_c_i64 (x : Int) : c_i64 x = [.i .i64 x] := _root_.id rfl
instance (x : Int) : EncR c_i64 [.i .i64 x] x := ⟨rfl⟩
theorem ld_i64 (xs : List Int) : lendRows (xs.map c_i64) = xs.map c_i64 := t_lend (fun x => by simp only [e_c_i64, lendRow, lendc]) xs
theorem cl_i64 (xs : List Int) : cleanRows (xs.map c_i64) = true := t_clean (fun x => by simp only [e_c_i64, cleans, AV.clean, Bool.and_self]) xs
theorem ib_i64 {R : List (List AV)} {xs : List Int} (i : Int) [h : EncL c_i64 R xs] : inb R i = inb xs i := by rw [h.eq, t_inb]
theorem ro_i64 {R : List (List AV)} {xs : List Int} (i : Int) [h : EncL c_i64 R xs] (hi : inb xs i = true) : rowOf R i.toNat = c_i64 (gt xs i) := by rw [h.eq, t_row xs i hi]
def c_u8 (x : Int) : List AV := [.i .u8 x]
theorem e_c_u8 (x : Int) : c_u8 x = [.i .u8 x] := _root_.id rfl
instance (x : Int) : EncR c_u8 [.i .u8 x] x := ⟨rfl⟩
theorem ld_u8 (xs : List Int) : lendRows (xs.map c_u8) = xs.map c_u8 := t_lend (fun x => by simp only [e_c_u8, lendRow, lendc]) xs
theorem cl_u8 (xs : List Int) : cleanRows (xs.map c_u8) = true := t_clean (fun x => by simp only [e_c_u8, cleans, AV.clean, Bool.and_self]) xs
theorem ib_u8 {R : List (List AV)} {xs : List Int} (i : Int) [h : EncL c_u8 R xs] : inb R i = inb xs i := by rw [h.eq, t_inb]
theorem ro_u8 {R : List (List AV)} {xs : List Int} (i : Int) [h : EncL c_u8 R xs] (hi : inb xs i = true) : rowOf R i.toNat = c_u8 (gt xs i) := by rw [h.eq, t_row xs i hi]
def c_b (x : Bool) : List AV := [.b x]
theorem e_c_b (x : Bool) : c_b x = [.b x] := _root_.id rfl
instance (x : Bool) : EncR c_b [.b x] x := ⟨rfl⟩
theorem ld_b (xs : List Bool) : lendRows (xs.map c_b) = xs.map c_b := t_lend (fun x => by simp only [e_c_b, lendRow, lendc]) xs
theorem cl_b (xs : List Bool) : cleanRows (xs.map c_b) = true := t_clean (fun x => by simp only [e_c_b, cleans, AV.clean, Bool.and_self]) xs
theorem ib_b {R : List (List AV)} {xs : List Bool} (i : Int) [h : EncL c_b R xs] : inb R i = inb xs i := by rw [h.eq, t_inb]
theorem ro_b {R : List (List AV)} {xs : List Bool} (i : Int) [h : EncL c_b R xs] (hi : inb xs i = true) : rowOf R i.toNat = c_b (gt xs i) := by rw [h.eq, t_row xs i hi]
def c_s (x : List UInt8) : List AV := [.s x]
theorem e_c_s (x : List UInt8) : c_s x = [.s x] := _root_.id rfl
instance (x : List UInt8) : EncR c_s [.s x] x := ⟨rfl⟩
theorem ld_s (xs : List (List UInt8)) : lendRows (xs.map c_s) = xs.map c_s := t_lend (fun x => by simp only [e_c_s, lendRow, lendc]) xs
theorem cl_s (xs : List (List UInt8)) : cleanRows (xs.map c_s) = true := t_clean (fun x => by simp only [e_c_s, cleans, AV.clean, Bool.and_self]) xs
theorem ib_s {R : List (List AV)} {xs : List (List UInt8)} (i : Int) [h : EncL c_s R xs] : inb R i = inb xs i := by rw [h.eq, t_inb]
theorem ro_s {R : List (List AV)} {xs : List (List UInt8)} (i : Int) [h : EncL c_s R xs] (hi : inb xs i = true) : rowOf R i.toNat = c_s (gt xs i) := by rw [h.eq, t_row xs i hi]
def cThing (x : Thing) : List AV := [.i .i64 x.Id, .i .i64 x.Kind, .i .i64 x.Colour, .i .i64 x.Size, .i .i64 x.Worth]
theorem e_cThing (x : Thing) : cThing x = [.i .i64 x.Id, .i .i64 x.Kind, .i .i64 x.Colour, .i .i64 x.Size, .i .i64 x.Worth] := _root_.id rfl
instance (yxId : Int) (yxKind : Int) (yxColour : Int) (yxSize : Int) (yxWorth : Int)  : EncR cThing [.i .i64 yxId, .i .i64 yxKind, .i .i64 yxColour, .i .i64 yxSize, .i .i64 yxWorth] (⟨yxId, yxKind, yxColour, yxSize, yxWorth⟩ : Thing) := ⟨by rfl⟩
theorem ld_Thing (xs : List Thing) : lendRows (xs.map cThing) = xs.map cThing := t_lend (fun x => by simp only [e_cThing, lendRow, lendc]) xs
theorem cl_Thing (xs : List Thing) : cleanRows (xs.map cThing) = true := t_clean (fun x => by simp only [e_cThing, cleans, AV.clean, Bool.and_self]) xs
theorem et_Thing (x : Thing) : (⟨x.Id, x.Kind, x.Colour, x.Size, x.Worth⟩ : Thing) = x := _root_.id rfl
def cFind (x : Find) : List AV := [.i .i64 x.Thing.Id, .i .i64 x.Thing.Kind, .i .i64 x.Thing.Colour, .i .i64 x.Thing.Size, .i .i64 x.Thing.Worth, .i .i64 x.Place, .i .i64 x.At, .i .i64 x.Finder]
theorem e_cFind (x : Find) : cFind x = [.i .i64 x.Thing.Id, .i .i64 x.Thing.Kind, .i .i64 x.Thing.Colour, .i .i64 x.Thing.Size, .i .i64 x.Thing.Worth, .i .i64 x.Place, .i .i64 x.At, .i .i64 x.Finder] := _root_.id rfl
instance (yxThingxId : Int) (yxThingxKind : Int) (yxThingxColour : Int) (yxThingxSize : Int) (yxThingxWorth : Int) (yxPlace : Int) (yxAt : Int) (yxFinder : Int)  : EncR cFind [.i .i64 yxThingxId, .i .i64 yxThingxKind, .i .i64 yxThingxColour, .i .i64 yxThingxSize, .i .i64 yxThingxWorth, .i .i64 yxPlace, .i .i64 yxAt, .i .i64 yxFinder] (⟨⟨yxThingxId, yxThingxKind, yxThingxColour, yxThingxSize, yxThingxWorth⟩, yxPlace, yxAt, yxFinder⟩ : Find) := ⟨by rfl⟩
theorem ld_Find (xs : List Find) : lendRows (xs.map cFind) = xs.map cFind := t_lend (fun x => by simp only [e_cFind, lendRow, lendc]) xs
theorem cl_Find (xs : List Find) : cleanRows (xs.map cFind) = true := t_clean (fun x => by simp only [e_cFind, cleans, AV.clean, Bool.and_self]) xs
theorem et_Find (x : Find) : (⟨x.Thing, x.Place, x.At, x.Finder⟩ : Find) = x := _root_.id rfl
def cMark (x : Mark) : List AV := [.i .i64 x.Question, .i .i64 x.Answer]
theorem e_cMark (x : Mark) : cMark x = [.i .i64 x.Question, .i .i64 x.Answer] := _root_.id rfl
instance (yxQuestion : Int) (yxAnswer : Int)  : EncR cMark [.i .i64 yxQuestion, .i .i64 yxAnswer] (⟨yxQuestion, yxAnswer⟩ : Mark) := ⟨by rfl⟩
theorem ld_Mark (xs : List Mark) : lendRows (xs.map cMark) = xs.map cMark := t_lend (fun x => by simp only [e_cMark, lendRow, lendc]) xs
theorem cl_Mark (xs : List Mark) : cleanRows (xs.map cMark) = true := t_clean (fun x => by simp only [e_cMark, cleans, AV.clean, Bool.and_self]) xs
theorem et_Mark (x : Mark) : (⟨x.Question, x.Answer⟩ : Mark) = x := _root_.id rfl
def cBid (x : Bid) : List AV := [.i .i64 x.Who, .i .i64 x.Cents, .i .i64 x.Seal]
theorem e_cBid (x : Bid) : cBid x = [.i .i64 x.Who, .i .i64 x.Cents, .i .i64 x.Seal] := _root_.id rfl
instance (yxWho : Int) (yxCents : Int) (yxSeal : Int)  : EncR cBid [.i .i64 yxWho, .i .i64 yxCents, .i .i64 yxSeal] (⟨yxWho, yxCents, yxSeal⟩ : Bid) := ⟨by rfl⟩
theorem ld_Bid (xs : List Bid) : lendRows (xs.map cBid) = xs.map cBid := t_lend (fun x => by simp only [e_cBid, lendRow, lendc]) xs
theorem cl_Bid (xs : List Bid) : cleanRows (xs.map cBid) = true := t_clean (fun x => by simp only [e_cBid, cleans, AV.clean, Bool.and_self]) xs
theorem et_Bid (x : Bid) : (⟨x.Who, x.Cents, x.Seal⟩ : Bid) = x := _root_.id rfl
def cEvent (x : Event) : List AV := [.i .i64 x.Kind, .i .i64 x.Find.Thing.Id, .i .i64 x.Find.Thing.Kind, .i .i64 x.Find.Thing.Colour, .i .i64 x.Find.Thing.Size, .i .i64 x.Find.Thing.Worth, .i .i64 x.Find.Place, .i .i64 x.Find.At, .i .i64 x.Find.Finder, .imm 2 (x.Marks.map cMark), .i .i64 x.Id, .i .i64 x.Who, .i .i64 x.N, .imm 3 (x.Bids.map cBid)]
theorem e_cEvent (x : Event) : cEvent x = [.i .i64 x.Kind, .i .i64 x.Find.Thing.Id, .i .i64 x.Find.Thing.Kind, .i .i64 x.Find.Thing.Colour, .i .i64 x.Find.Thing.Size, .i .i64 x.Find.Thing.Worth, .i .i64 x.Find.Place, .i .i64 x.Find.At, .i .i64 x.Find.Finder, .imm 2 (x.Marks.map cMark), .i .i64 x.Id, .i .i64 x.Who, .i .i64 x.N, .imm 3 (x.Bids.map cBid)] := _root_.id rfl
instance (yxKind : Int) (yxFindxThingxId : Int) (yxFindxThingxKind : Int) (yxFindxThingxColour : Int) (yxFindxThingxSize : Int) (yxFindxThingxWorth : Int) (yxFindxPlace : Int) (yxFindxAt : Int) (yxFindxFinder : Int) {R1} {yxMarks : List Mark} (yxId : Int) (yxWho : Int) (yxN : Int) {R2} {yxBids : List Bid} [H1 : EncL cMark R1 yxMarks] [H2 : EncL cBid R2 yxBids] : EncR cEvent [.i .i64 yxKind, .i .i64 yxFindxThingxId, .i .i64 yxFindxThingxKind, .i .i64 yxFindxThingxColour, .i .i64 yxFindxThingxSize, .i .i64 yxFindxThingxWorth, .i .i64 yxFindxPlace, .i .i64 yxFindxAt, .i .i64 yxFindxFinder, .imm 2 R1, .i .i64 yxId, .i .i64 yxWho, .i .i64 yxN, .imm 3 R2] (⟨yxKind, ⟨⟨yxFindxThingxId, yxFindxThingxKind, yxFindxThingxColour, yxFindxThingxSize, yxFindxThingxWorth⟩, yxFindxPlace, yxFindxAt, yxFindxFinder⟩, yxMarks, yxId, yxWho, yxN, yxBids⟩ : Event) := ⟨by obtain ⟨rfl⟩ := H1; obtain ⟨rfl⟩ := H2; rfl⟩
def cEventO (x : Event) : List AV := [.i .i64 x.Kind, .i .i64 x.Find.Thing.Id, .i .i64 x.Find.Thing.Kind, .i .i64 x.Find.Thing.Colour, .i .i64 x.Find.Thing.Size, .i .i64 x.Find.Thing.Worth, .i .i64 x.Find.Place, .i .i64 x.Find.At, .i .i64 x.Find.Finder, .own 2 (x.Marks.map cMark), .i .i64 x.Id, .i .i64 x.Who, .i .i64 x.N, .own 3 (x.Bids.map cBid)]
theorem e_cEventO (x : Event) : cEventO x = [.i .i64 x.Kind, .i .i64 x.Find.Thing.Id, .i .i64 x.Find.Thing.Kind, .i .i64 x.Find.Thing.Colour, .i .i64 x.Find.Thing.Size, .i .i64 x.Find.Thing.Worth, .i .i64 x.Find.Place, .i .i64 x.Find.At, .i .i64 x.Find.Finder, .own 2 (x.Marks.map cMark), .i .i64 x.Id, .i .i64 x.Who, .i .i64 x.N, .own 3 (x.Bids.map cBid)] := _root_.id rfl
instance (yxKind : Int) (yxFindxThingxId : Int) (yxFindxThingxKind : Int) (yxFindxThingxColour : Int) (yxFindxThingxSize : Int) (yxFindxThingxWorth : Int) (yxFindxPlace : Int) (yxFindxAt : Int) (yxFindxFinder : Int) {R1} {yxMarks : List Mark} (yxId : Int) (yxWho : Int) (yxN : Int) {R2} {yxBids : List Bid} [H1 : EncL cMark R1 yxMarks] [H2 : EncL cBid R2 yxBids] : EncR cEventO [.i .i64 yxKind, .i .i64 yxFindxThingxId, .i .i64 yxFindxThingxKind, .i .i64 yxFindxThingxColour, .i .i64 yxFindxThingxSize, .i .i64 yxFindxThingxWorth, .i .i64 yxFindxPlace, .i .i64 yxFindxAt, .i .i64 yxFindxFinder, .own 2 R1, .i .i64 yxId, .i .i64 yxWho, .i .i64 yxN, .own 3 R2] (⟨yxKind, ⟨⟨yxFindxThingxId, yxFindxThingxKind, yxFindxThingxColour, yxFindxThingxSize, yxFindxThingxWorth⟩, yxFindxPlace, yxFindxAt, yxFindxFinder⟩, yxMarks, yxId, yxWho, yxN, yxBids⟩ : Event) := ⟨by obtain ⟨rfl⟩ := H1; obtain ⟨rfl⟩ := H2; rfl⟩
theorem ld_Event (xs : List Event) : lendRows (xs.map cEventO) = xs.map cEvent := t_lend (fun x => by simp only [e_cEventO, e_cEvent, lendRow, lendc, ld_Bid, ld_Mark]) xs
theorem cl_Event (xs : List Event) : cleanRows (xs.map cEventO) = true := t_clean (fun x => by simp only [e_cEventO, cleans, AV.clean, Bool.and_self, cl_Bid, cl_Mark]) xs
theorem et_Event (x : Event) : (⟨x.Kind, x.Find, x.Marks, x.Id, x.Who, x.N, x.Bids⟩ : Event) = x := _root_.id rfl
def encs := And.intro @e_c_i64 <| And.intro @ld_i64 <| And.intro @cl_i64 <| And.intro @ib_i64 <| And.intro @ro_i64 <| And.intro @e_c_u8 <| And.intro @ld_u8 <| And.intro @cl_u8 <| And.intro @ib_u8 <| And.intro @ro_u8 <| And.intro @e_c_b <| And.intro @ld_b <| And.intro @cl_b <| And.intro @ib_b <| And.intro @ro_b <| And.intro @e_c_s <| And.intro @ld_s <| And.intro @cl_s <| And.intro @ib_s <| And.intro @ro_s <| And.intro @e_cThing <| And.intro @ld_Thing <| And.intro @cl_Thing <| And.intro @et_Thing <| And.intro @e_cFind <| And.intro @ld_Find <| And.intro @cl_Find <| And.intro @et_Find <| And.intro @e_cMark <| And.intro @ld_Mark <| And.intro @cl_Mark <| And.intro @et_Mark <| And.intro @e_cBid <| And.intro @ld_Bid <| And.intro @cl_Bid <| And.intro @et_Bid <| And.intro @e_cEvent <| And.intro @ld_Event <| And.intro @cl_Event <| And.intro @et_Event @e_cEventO
theorem ty0 : isSlT Try.prog 30 = true := by kernel_rfl
theorem ty1 : slzE Try.prog 26 = [0, 0, 0, 0, 0, 0, 0, 0, 0, 2, 0, 0, 0, 3] := by kernel_rfl
theorem ty2 : slzE Try.prog 28 = [0, 0, 0, 0, 0, 0, 0, 0] := by kernel_rfl
theorem ty3 : slzE Try.prog 30 = [0, 0] := by kernel_rfl
theorem ty4 : tb Try.prog 71 = some 64 := by kernel_rfl
theorem ty5 : tb Try.prog 74 = some 144 := by kernel_rfl
theorem ty6 : tb Try.prog 80 = some 16 := by kernel_rfl
theorem ty7 : tbd Try.prog 74 = .st [.i .i64 0, .i .i64 0, .i .i64 0, .i .i64 0, .i .i64 0, .i .i64 0, .i .i64 0, .i .i64 0, .i .i64 0, .nil, .i .i64 0, .i .i64 0, .i .i64 0, .nil] [(0, 1), (1, 8), (9, 1), (10, 1), (11, 1), (12, 1), (13, 1)] := by kernel_rfl
theorem ty8 : tfo Try.prog 124 0 = some (0, .one) := by kernel_rfl
theorem ty9 : tfo Try.prog 124 1 = some (1, .one) := by kernel_rfl
theorem ty10 : tfo Try.prog 124 2 = some (2, .one) := by kernel_rfl
theorem ty11 : tfo Try.prog 69 0 = some (0, .one) := by kernel_rfl
theorem ty12 : tfo Try.prog 69 1 = some (1, .one) := by kernel_rfl
theorem ty13 : tfo Try.prog 69 2 = some (2, .one) := by kernel_rfl
theorem ty14 : tfo Try.prog 69 3 = some (3, .one) := by kernel_rfl
theorem ty15 : tfo Try.prog 69 4 = some (4, .one) := by kernel_rfl
theorem ty16 : tfo Try.prog 71 0 = some (0, .agg 5) := by kernel_rfl
theorem ty17 : tfo Try.prog 71 1 = some (5, .one) := by kernel_rfl
theorem ty18 : tfo Try.prog 71 2 = some (6, .one) := by kernel_rfl
theorem ty19 : tfo Try.prog 71 3 = some (7, .one) := by kernel_rfl
theorem ty20 : tfo Try.prog 74 0 = some (0, .one) := by kernel_rfl
theorem ty21 : tfo Try.prog 74 1 = some (1, .agg 8) := by kernel_rfl
theorem ty22 : tfo Try.prog 74 2 = some (9, .one) := by kernel_rfl
theorem ty23 : tfo Try.prog 74 3 = some (10, .one) := by kernel_rfl
theorem ty24 : tfo Try.prog 74 4 = some (11, .one) := by kernel_rfl
theorem ty25 : tfo Try.prog 74 5 = some (12, .one) := by kernel_rfl
theorem ty26 : tfo Try.prog 74 6 = some (13, .one) := by kernel_rfl
theorem ty27 : tfo Try.prog 76 0 = some (0, .one) := by kernel_rfl
theorem ty28 : tfo Try.prog 76 1 = some (1, .one) := by kernel_rfl
theorem ty29 : tfo Try.prog 76 2 = some (2, .one) := by kernel_rfl
theorem ty30 : tfo Try.prog 76 3 = some (3, .one) := by kernel_rfl
theorem ty31 : tfo Try.prog 76 4 = some (4, .one) := by kernel_rfl
theorem ty32 : tfo Try.prog 78 0 = some (0, .agg 5) := by kernel_rfl
theorem ty33 : tfo Try.prog 78 1 = some (5, .one) := by kernel_rfl
theorem ty34 : tfo Try.prog 78 2 = some (6, .one) := by kernel_rfl
theorem ty35 : tfo Try.prog 78 3 = some (7, .one) := by kernel_rfl
theorem ty36 : tfo Try.prog 80 0 = some (0, .one) := by kernel_rfl
theorem ty37 : tfo Try.prog 80 1 = some (1, .one) := by kernel_rfl
theorem ty38 : tfo Try.prog 82 0 = some (0, .one) := by kernel_rfl
theorem ty39 : tfo Try.prog 82 1 = some (1, .one) := by kernel_rfl
theorem ty40 : ti Try.prog 22 = .sl 78 8 := by kernel_rfl
theorem ty41 : ti Try.prog 23 = .sl 82 2 := by kernel_rfl
theorem ty42 : ti Try.prog 26 = .sl 74 14 := by kernel_rfl
theorem ty43 : ti Try.prog 28 = .sl 71 8 := by kernel_rfl
theorem ty44 : ti Try.prog 30 = .sl 80 2 := by kernel_rfl
theorem ty45 : ti Try.prog 72 = .sl 124 3 := by kernel_rfl
theorem ty46 : tk Try.prog 124 = .agg 3 := by kernel_rfl
theorem ty47 : tk Try.prog 3 = .one := by kernel_rfl
theorem ty48 : tk Try.prog 30 = .one := by kernel_rfl
theorem ty49 : tk Try.prog 69 = .agg 5 := by kernel_rfl
theorem ty50 : tk Try.prog 71 = .agg 8 := by kernel_rfl
theorem ty51 : tk Try.prog 72 = .one := by kernel_rfl
theorem ty52 : tk Try.prog 74 = .agg 14 := by kernel_rfl
theorem ty53 : tk Try.prog 76 = .agg 5 := by kernel_rfl
theorem ty54 : tk Try.prog 78 = .agg 8 := by kernel_rfl
theorem ty55 : tk Try.prog 80 = .agg 2 := by kernel_rfl
theorem ty56 : tk Try.prog 82 = .agg 2 := by kernel_rfl
theorem ty57 : tnoint Try.prog 26 = true := by kernel_rfl
theorem ty58 : tnoint Try.prog 30 = true := by kernel_rfl
theorem ty59 : tse Try.prog 26 = some (74, 14, [.i .i64 0, .i .i64 0, .i .i64 0, .i .i64 0, .i .i64 0, .i .i64 0, .i .i64 0, .i .i64 0, .i .i64 0, .nil, .i .i64 0, .i .i64 0, .i .i64 0, .nil]) := by kernel_rfl
theorem ty60 : tse Try.prog 28 = some (71, 8, [.i .i64 0, .i .i64 0, .i .i64 0, .i .i64 0, .i .i64 0, .i .i64 0, .i .i64 0, .i .i64 0]) := by kernel_rfl
theorem ty61 : tse Try.prog 30 = some (80, 2, [.i .i64 0, .i .i64 0]) := by kernel_rfl
theorem ty62 : tzc Try.prog 69 = some [.i .i64 0, .i .i64 0, .i .i64 0, .i .i64 0, .i .i64 0] := by kernel_rfl
theorem ty63 : tzc Try.prog 71 = some [.i .i64 0, .i .i64 0, .i .i64 0, .i .i64 0, .i .i64 0, .i .i64 0, .i .i64 0, .i .i64 0] := by kernel_rfl
theorem ty64 : tzc Try.prog 80 = some [.i .i64 0, .i .i64 0] := by kernel_rfl
def tys := And.intro @ty0 <| And.intro @ty1 <| And.intro @ty2 <| And.intro @ty3 <| And.intro @ty4 <| And.intro @ty5 <| And.intro @ty6 <| And.intro @ty7 <| And.intro @ty8 <| And.intro @ty9 <| And.intro @ty10 <| And.intro @ty11 <| And.intro @ty12 <| And.intro @ty13 <| And.intro @ty14 <| And.intro @ty15 <| And.intro @ty16 <| And.intro @ty17 <| And.intro @ty18 <| And.intro @ty19 <| And.intro @ty20 <| And.intro @ty21 <| And.intro @ty22 <| And.intro @ty23 <| And.intro @ty24 <| And.intro @ty25 <| And.intro @ty26 <| And.intro @ty27 <| And.intro @ty28 <| And.intro @ty29 <| And.intro @ty30 <| And.intro @ty31 <| And.intro @ty32 <| And.intro @ty33 <| And.intro @ty34 <| And.intro @ty35 <| And.intro @ty36 <| And.intro @ty37 <| And.intro @ty38 <| And.intro @ty39 <| And.intro @ty40 <| And.intro @ty41 <| And.intro @ty42 <| And.intro @ty43 <| And.intro @ty44 <| And.intro @ty45 <| And.intro @ty46 <| And.intro @ty47 <| And.intro @ty48 <| And.intro @ty49 <| And.intro @ty50 <| And.intro @ty51 <| And.intro @ty52 <| And.intro @ty53 <| And.intro @ty54 <| And.intro @ty55 <| And.intro @ty56 <| And.intro @ty57 <| And.intro @ty58 <| And.intro @ty59 <| And.intro @ty60 <| And.intro @ty61 <| And.intro @ty62 <| And.intro @ty63 @ty64
noncomputable def T : Tld := ⟨Try.prog, [(3, { ac := [(19, 0), (20, 0), (24, 0)], jn := [(21, (63, 56, 63))] }), (10, {}), (11, {}), (12, { ot := [(5, .one 0 (.one 1 (.one 2 (.one 6 (.alt (.one 3 (.alt (.one 4 (.one 5 (.one 7 (.one 8 (.one 9 (.one 10 (.one 11 (.done)))))))) (.one 5 (.alt (.one 4 (.one 7 (.one 8 (.one 9 (.one 10 (.one 11 (.done))))))) (.one 7 (.one 4 (.one 8 (.one 9 (.one 10 (.one 11 (.done))))))))))) (.one 5 (.alt (.one 3 (.alt (.one 4 (.one 7 (.one 8 (.one 9 (.one 10 (.one 11 (.done))))))) (.one 7 (.one 4 (.one 8 (.one 9 (.one 10 (.one 11 (.done))))))))) (.one 7 (.one 3 (.one 4 (.one 8 (.one 9 (.one 10 (.one 11 (.done)))))))))))))))], lp := [(3, ⟨[0, 1, 5, 6], [.s 5 14], [5], [.s 5 14]⟩)], sh := [.z 14] }), (13, { lp := [(3, ⟨[0, 3, 4], [.s 3 8], [3], [.s 3 8]⟩)], sh := [.z 8] }), (14, { lp := [(3, ⟨[0, 3, 4], [.s 3 2], [3], [.s 3 2]⟩)], sh := [.z 2] }), (15, { lp := [(3, ⟨[1, 5, 9, 10, 11], [.s 5 14], [5], [.s 5 14]⟩)], sh := [.z 14] }), (16, { lp := [(4, ⟨[0, 1, 5], [], [], []⟩)], rt := ⟨[4], [], [], []⟩ }), (17, { lp := [(4, ⟨[0, 1, 5], [], [], []⟩)], rt := ⟨[4], [], [], []⟩ }), (18, { lp := [(4, ⟨[0, 1, 5], [], [], []⟩)], rt := ⟨[4], [], [], []⟩ }), (19, { ak := [0], lp := [(2, ⟨[0, 1, 5], [.s 0 8], [0, 1], [.s 0 8]⟩)] }), (20, { ak := [0], lp := [(2, ⟨[0, 1, 5], [.s 0 2], [0, 1], [.s 0 2]⟩)] }), (21, { an := [(22, [0, 0, 0, 0]), (29, [0, 0, 0, 0])], ak := [0], lp := [(2, ⟨[0, 1, 5], [.s 0 14], [0, 1], [.s 0 14]⟩)] }), (22, { lp := [(2, ⟨[0, 1, 5], [], [1], []⟩)], rt := ⟨[4], [], [], []⟩ }), (39, {}), (40, {}), (41, { sh := [.z 2] }), (42, {}), (43, {}), (44, {}), (45, { ak := [0], lp := [(2, ⟨[0, 1, 5], [.s 0 3], [0, 1], [.s 0 3]⟩)] }), (46, { lp := [(2, ⟨[0, 1, 5], [], [1], []⟩)], rt := ⟨[4], [], [], []⟩ }), (47, { lp := [(2, ⟨[0, 1, 5], [], [1], []⟩)], rt := ⟨[4], [], [], []⟩ }), (87, {}), (88, { lp := [(4, ⟨[0, 1, 5], [], [], []⟩)], rt := ⟨[4], [], [], []⟩ }), (89, {}), (122, {})], fun _ _ => none, fun _ => false, fun _ => false⟩
theorem TP : T.P = Try.prog := _root_.id rfl
theorem e_cI : cI = c_i64 := _root_.id rfl
theorem ints_c (xs : List Int) : intsOf (xs.map c_i64) = some xs := s_ints xs
theorem st_19 : T.st 19 = false := by kernel_rfl
theorem qt_19 : T.qt 19 = false := by kernel_rfl
theorem wt_19 : T.wt 19 = true := by kernel_rfl
theorem st_20 : T.st 20 = false := by kernel_rfl
theorem qt_20 : T.qt 20 = false := by kernel_rfl
theorem wt_20 : T.wt 20 = true := by kernel_rfl
theorem st_21 : T.st 21 = false := by kernel_rfl
theorem qt_21 : T.qt 21 = false := by kernel_rfl
theorem wt_21 : T.wt 21 = true := by kernel_rfl
theorem st_45 : T.st 45 = false := by kernel_rfl
theorem qt_45 : T.qt 45 = false := by kernel_rfl
theorem wt_45 : T.wt 45 = true := by kernel_rfl
def srt := And.intro @e_cI <| And.intro @ints_c <| And.intro @orc_s <| And.intro @orc_q <| And.intro @orc_w <| And.intro @st_19 <| And.intro @qt_19 <| And.intro @wt_19 <| And.intro @st_20 <| And.intro @qt_20 <| And.intro @wt_20 <| And.intro @st_21 <| And.intro @qt_21 <| And.intro @wt_21 <| And.intro @st_45 <| And.intro @qt_45 @wt_45
theorem a3 : T.at 3 = some { ac := [(19, 0), (20, 0), (24, 0)], jn := [(21, (63, 56, 63))] } := by kernel_rfl
theorem a10 : T.at 10 = some {} := by kernel_rfl
theorem a11 : T.at 11 = some {} := by kernel_rfl
theorem a12 : T.at 12 = some { ot := [(5, .one 0 (.one 1 (.one 2 (.one 6 (.alt (.one 3 (.alt (.one 4 (.one 5 (.one 7 (.one 8 (.one 9 (.one 10 (.one 11 (.done)))))))) (.one 5 (.alt (.one 4 (.one 7 (.one 8 (.one 9 (.one 10 (.one 11 (.done))))))) (.one 7 (.one 4 (.one 8 (.one 9 (.one 10 (.one 11 (.done))))))))))) (.one 5 (.alt (.one 3 (.alt (.one 4 (.one 7 (.one 8 (.one 9 (.one 10 (.one 11 (.done))))))) (.one 7 (.one 4 (.one 8 (.one 9 (.one 10 (.one 11 (.done))))))))) (.one 7 (.one 3 (.one 4 (.one 8 (.one 9 (.one 10 (.one 11 (.done)))))))))))))))], lp := [(3, ⟨[0, 1, 5, 6], [.s 5 14], [5], [.s 5 14]⟩)], sh := [.z 14] } := by kernel_rfl
theorem a13 : T.at 13 = some { lp := [(3, ⟨[0, 3, 4], [.s 3 8], [3], [.s 3 8]⟩)], sh := [.z 8] } := by kernel_rfl
theorem a14 : T.at 14 = some { lp := [(3, ⟨[0, 3, 4], [.s 3 2], [3], [.s 3 2]⟩)], sh := [.z 2] } := by kernel_rfl
theorem a15 : T.at 15 = some { lp := [(3, ⟨[1, 5, 9, 10, 11], [.s 5 14], [5], [.s 5 14]⟩)], sh := [.z 14] } := by kernel_rfl
theorem a16 : T.at 16 = some { lp := [(4, ⟨[0, 1, 5], [], [], []⟩)], rt := ⟨[4], [], [], []⟩ } := by kernel_rfl
theorem a17 : T.at 17 = some { lp := [(4, ⟨[0, 1, 5], [], [], []⟩)], rt := ⟨[4], [], [], []⟩ } := by kernel_rfl
theorem a18 : T.at 18 = some { lp := [(4, ⟨[0, 1, 5], [], [], []⟩)], rt := ⟨[4], [], [], []⟩ } := by kernel_rfl
theorem a19 : T.at 19 = some { ak := [0], lp := [(2, ⟨[0, 1, 5], [.s 0 8], [0, 1], [.s 0 8]⟩)] } := by kernel_rfl
theorem a20 : T.at 20 = some { ak := [0], lp := [(2, ⟨[0, 1, 5], [.s 0 2], [0, 1], [.s 0 2]⟩)] } := by kernel_rfl
theorem a21 : T.at 21 = some { an := [(22, [0, 0, 0, 0]), (29, [0, 0, 0, 0])], ak := [0], lp := [(2, ⟨[0, 1, 5], [.s 0 14], [0, 1], [.s 0 14]⟩)] } := by kernel_rfl
theorem a22 : T.at 22 = some { lp := [(2, ⟨[0, 1, 5], [], [1], []⟩)], rt := ⟨[4], [], [], []⟩ } := by kernel_rfl
theorem a39 : T.at 39 = some {} := by kernel_rfl
theorem a40 : T.at 40 = some {} := by kernel_rfl
theorem a41 : T.at 41 = some { sh := [.z 2] } := by kernel_rfl
theorem a42 : T.at 42 = some {} := by kernel_rfl
theorem a43 : T.at 43 = some {} := by kernel_rfl
theorem a44 : T.at 44 = some {} := by kernel_rfl
theorem a45 : T.at 45 = some { ak := [0], lp := [(2, ⟨[0, 1, 5], [.s 0 3], [0, 1], [.s 0 3]⟩)] } := by kernel_rfl
theorem a46 : T.at 46 = some { lp := [(2, ⟨[0, 1, 5], [], [1], []⟩)], rt := ⟨[4], [], [], []⟩ } := by kernel_rfl
theorem a47 : T.at 47 = some { lp := [(2, ⟨[0, 1, 5], [], [1], []⟩)], rt := ⟨[4], [], [], []⟩ } := by kernel_rfl
theorem a87 : T.at 87 = some {} := by kernel_rfl
theorem a88 : T.at 88 = some { lp := [(4, ⟨[0, 1, 5], [], [], []⟩)], rt := ⟨[4], [], [], []⟩ } := by kernel_rfl
theorem a89 : T.at 89 = some {} := by kernel_rfl
theorem a122 : T.at 122 = some {} := by kernel_rfl
end Go.Proofs.Ytcpelionmmnogaa
