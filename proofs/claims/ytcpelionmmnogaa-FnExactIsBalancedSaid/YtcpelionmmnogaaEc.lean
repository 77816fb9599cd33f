/- Types and values told as the machine has them. No condition. -/
import Derived.Test.YtcpelionmmnogaaEv3
import Derived.Test.YtcpelionmmnogaaFn
import Derived.Test.YtcpelionmmnogaaProg
import Derived.KernelRfl
namespace Go.Proofs.Ytcpelionmmnogaa
open Go Go.Proofs Go.Proofs.Ytcpelionmmnogaa.Am
set_option linter.unusedVariables false
set_option linter.unusedSimpArgs false
set_option linter.defProp false
set_option maxRecDepth 100000
def c_i64 (x : Int) : List AV := [.i .i64 x]
theorem e_c_i64 (x : Int) : c_i64 x = [.i .i64 x] := _root_.id rfl
instance (x : Int) : EncR c_i64 [.i .i64 x] x := ⟨rfl⟩
theorem ld_i64 (xs : List Int) : lendRows (xs.map c_i64) = xs.map c_i64 := t_lend (fun x => by simp only [e_c_i64, lendRow, lendc]) xs
theorem cl_i64 (xs : List Int) : cleanRows (xs.map c_i64) = true := t_clean (fun x => by simp only [e_c_i64, cleans, AV.clean, Bool.and_self]) xs
theorem ib_i64 {R : List (List AV)} {xs : List Int} (i : Int) [h : EncL c_i64 R xs] : inb R i = inb xs i := by rw [h.eq, t_inb]
theorem ro_i64 {R : List (List AV)} {xs : List Int} (i : Int) [h : EncL c_i64 R xs] (hi : inb xs i = true) : rowOf R i.toNat = c_i64 (gt xs i) := by rw [h.eq, t_row xs i hi]
def c_u8 (x : Int) : List AV := [.i .u8 x]
theorem e_c_u8 (x : Int) : c_u8 x = [.i .u8 x] := _root_.id rfl
instance (x : Int) : EncR c_u8 [.i .u8 x] x := ⟨rfl⟩
theorem ld_u8 (xs : List Int) : lendRows (xs.map c_u8) = xs.map c_u8 := t_lend (fun x => by simp only [e_c_u8, lendRow, lendc]) xs
theorem cl_u8 (xs : List Int) : cleanRows (xs.map c_u8) = true := t_clean (fun x => by simp only [e_c_u8, cleans, AV.clean, Bool.and_self]) xs
theorem ib_u8 {R : List (List AV)} {xs : List Int} (i : Int) [h : EncL c_u8 R xs] : inb R i = inb xs i := by rw [h.eq, t_inb]
theorem ro_u8 {R : List (List AV)} {xs : List Int} (i : Int) [h : EncL c_u8 R xs] (hi : inb xs i = true) : rowOf R i.toNat = c_u8 (gt xs i) := by rw [h.eq, t_row xs i hi]
def c_b (x : Bool) : List AV := [.b x]
theorem e_c_b (x : Bool) : c_b x = [.b x] := _root_.id rfl
instance (x : Bool) : EncR c_b [.b x] x := ⟨rfl⟩
theorem ld_b (xs : List Bool) : lendRows (xs.map c_b) = xs.map c_b := t_lend (fun x => by simp only [e_c_b, lendRow, lendc]) xs
theorem cl_b (xs : List Bool) : cleanRows (xs.map c_b) = true := t_clean (fun x => by simp only [e_c_b, cleans, AV.clean, Bool.and_self]) xs
theorem ib_b {R : List (List AV)} {xs : List Bool} (i : Int) [h : EncL c_b R xs] : inb R i = inb xs i := by rw [h.eq, t_inb]
theorem ro_b {R : List (List AV)} {xs : List Bool} (i : Int) [h : EncL c_b R xs] (hi : inb xs i = true) : rowOf R i.toNat = c_b (gt xs i) := by rw [h.eq, t_row xs i hi]
def c_s (x : List UInt8) : List AV := [.s x]
theorem e_c_s (x : List UInt8) : c_s x = [.s x] := _root_.id rfl
instance (x : List UInt8) : EncR c_s [.s x] x := ⟨rfl⟩
theorem ld_s (xs : List (List UInt8)) : lendRows (xs.map c_s) = xs.map c_s := t_lend (fun x => by simp only [e_c_s, lendRow, lendc]) xs
theorem cl_s (xs : List (List UInt8)) : cleanRows (xs.map c_s) = true := t_clean (fun x => by simp only [e_c_s, cleans, AV.clean, Bool.and_self]) xs
theorem ib_s {R : List (List AV)} {xs : List (List UInt8)} (i : Int) [h : EncL c_s R xs] : inb R i = inb xs i := by rw [h.eq, t_inb]
theorem ro_s {R : List (List AV)} {xs : List (List UInt8)} (i : Int) [h : EncL c_s R xs] (hi : inb xs i = true) : rowOf R i.toNat = c_s (gt xs i) := by rw [h.eq, t_row xs i hi]
def cThing (x : Thing) : List AV := [.i .i64 x.Id, .i .i64 x.Kind, .i .i64 x.Colour, .i .i64 x.Size, .i .i64 x.Worth]
theorem e_cThing (x : Thing) : cThing x = [.i .i64 x.Id, .i .i64 x.Kind, .i .i64 x.Colour, .i .i64 x.Size, .i .i64 x.Worth] := _root_.id rfl
instance (yxId : Int) (yxKind : Int) (yxColour : Int) (yxSize : Int) (yxWorth : Int)  : EncR cThing [.i .i64 yxId, .i .i64 yxKind, .i .i64 yxColour, .i .i64 yxSize, .i .i64 yxWorth] (⟨yxId, yxKind, yxColour, yxSize, yxWorth⟩ : Thing) := ⟨by rfl⟩
theorem ld_Thing (xs : List Thing) : lendRows (xs.map cThing) = xs.map cThing := t_lend (fun x => by simp only [e_cThing, lendRow, lendc]) xs
theorem cl_Thing (xs : List Thing) : cleanRows (xs.map cThing) = true := t_clean (fun x => by simp only [e_cThing, cleans, AV.clean, Bool.and_self]) xs
theorem et_Thing (x : Thing) : (⟨x.Id, x.Kind, x.Colour, x.Size, x.Worth⟩ : Thing) = x := _root_.id rfl
def cFind (x : Find) : List AV := [.i .i64 x.Thing.Id, .i .i64 x.Thing.Kind, .i .i64 x.Thing.Colour, .i .i64 x.Thing.Size, .i .i64 x.Thing.Worth, .i .i64 x.Place, .i .i64 x.At, .i .i64 x.Finder]
theorem e_cFind (x : Find) : cFind x = [.i .i64 x.Thing.Id, .i .i64 x.Thing.Kind, .i .i64 x.Thing.Colour, .i .i64 x.Thing.Size, .i .i64 x.Thing.Worth, .i .i64 x.Place, .i .i64 x.At, .i .i64 x.Finder] := _root_.id rfl
instance (yxThingxId : Int) (yxThingxKind : Int) (yxThingxColour : Int) (yxThingxSize : Int) (yxThingxWorth : Int) (yxPlace : Int) (yxAt : Int) (yxFinder : Int)  : EncR cFind [.i .i64 yxThingxId, .i .i64 yxThingxKind, .i .i64 yxThingxColour, .i .i64 yxThingxSize, .i .i64 yxThingxWorth, .i .i64 yxPlace, .i .i64 yxAt, .i .i64 yxFinder] (⟨⟨yxThingxId, yxThingxKind, yxThingxColour, yxThingxSize, yxThingxWorth⟩, yxPlace, yxAt, yxFinder⟩ : Find) := ⟨by rfl⟩
theorem ld_Find (xs : List Find) : lendRows (xs.map cFind) = xs.map cFind := t_lend (fun x => by simp only [e_cFind, lendRow, lendc]) xs
theorem cl_Find (xs : List Find) : cleanRows (xs.map cFind) = true := t_clean (fun x => by simp only [e_cFind, cleans, AV.clean, Bool.and_self]) xs
theorem et_Find (x : Find) : (⟨x.Thing, x.Place, x.At, x.Finder⟩ : Find) = x := _root_.id rfl
def cMark (x : Mark) : List AV := [.i .i64 x.Question, .i .i64 x.Answer]
theorem e_cMark (x : Mark) : cMark x = [.i .i64 x.Question, .i .i64 x.Answer] := _root_.id rfl
instance (yxQuestion : Int) (yxAnswer : Int)  : EncR cMark [.i .i64 yxQuestion, .i .i64 yxAnswer] (⟨yxQuestion, yxAnswer⟩ : Mark) := ⟨by rfl⟩
theorem ld_Mark (xs : List Mark) : lendRows (xs.map cMark) = xs.map cMark := t_lend (fun x => by simp only [e_cMark, lendRow, lendc]) xs
theorem cl_Mark (xs : List Mark) : cleanRows (xs.map cMark) = true := t_clean (fun x => by simp only [e_cMark, cleans, AV.clean, Bool.and_self]) xs
theorem et_Mark (x : Mark) : (⟨x.Question, x.Answer⟩ : Mark) = x := _root_.id rfl
def cSecret (x : Secret) : List AV := [.i .i64 x.Thing, .imm 2 (x.Marks.map cMark), .i .i64 x.Salt]
theorem e_cSecret (x : Secret) : cSecret x = [.i .i64 x.Thing, .imm 2 (x.Marks.map cMark), .i .i64 x.Salt] := _root_.id rfl
instance (yxThing : Int) {R1} {yxMarks : List Mark} (yxSalt : Int) [H1 : EncL cMark R1 yxMarks] : EncR cSecret [.i .i64 yxThing, .imm 2 R1, .i .i64 yxSalt] (⟨yxThing, yxMarks, yxSalt⟩ : Secret) := ⟨by obtain ⟨rfl⟩ := H1; rfl⟩
def cSecretO (x : Secret) : List AV := [.i .i64 x.Thing, .own 2 (x.Marks.map cMark), .i .i64 x.Salt]
theorem e_cSecretO (x : Secret) : cSecretO x = [.i .i64 x.Thing, .own 2 (x.Marks.map cMark), .i .i64 x.Salt] := _root_.id rfl
instance (yxThing : Int) {R1} {yxMarks : List Mark} (yxSalt : Int) [H1 : EncL cMark R1 yxMarks] : EncR cSecretO [.i .i64 yxThing, .own 2 R1, .i .i64 yxSalt] (⟨yxThing, yxMarks, yxSalt⟩ : Secret) := ⟨by obtain ⟨rfl⟩ := H1; rfl⟩
theorem ld_Secret (xs : List Secret) : lendRows (xs.map cSecretO) = xs.map cSecret := t_lend (fun x => by simp only [e_cSecretO, e_cSecret, lendRow, lendc, ld_Mark]) xs
theorem cl_Secret (xs : List Secret) : cleanRows (xs.map cSecretO) = true := t_clean (fun x => by simp only [e_cSecretO, cleans, AV.clean, Bool.and_self, cl_Mark]) xs
theorem et_Secret (x : Secret) : (⟨x.Thing, x.Marks, x.Salt⟩ : Secret) = x := _root_.id rfl
def cSlot (x : Slot) : List AV := [.i .i64 x.Id, .i .i64 x.Size, .i .i64 x.Thing]
theorem e_cSlot (x : Slot) : cSlot x = [.i .i64 x.Id, .i .i64 x.Size, .i .i64 x.Thing] := _root_.id rfl
instance (yxId : Int) (yxSize : Int) (yxThing : Int)  : EncR cSlot [.i .i64 yxId, .i .i64 yxSize, .i .i64 yxThing] (⟨yxId, yxSize, yxThing⟩ : Slot) := ⟨by rfl⟩
theorem ld_Slot (xs : List Slot) : lendRows (xs.map cSlot) = xs.map cSlot := t_lend (fun x => by simp only [e_cSlot, lendRow, lendc]) xs
theorem cl_Slot (xs : List Slot) : cleanRows (xs.map cSlot) = true := t_clean (fun x => by simp only [e_cSlot, cleans, AV.clean, Bool.and_self]) xs
theorem et_Slot (x : Slot) : (⟨x.Id, x.Size, x.Thing⟩ : Slot) = x := _root_.id rfl
def cClaim (x : Claim) : List AV := [.i .i64 x.Id, .i .i64 x.Who, .i .i64 x.Thing, .i .i64 x.At, .i .i64 x.State]
theorem e_cClaim (x : Claim) : cClaim x = [.i .i64 x.Id, .i .i64 x.Who, .i .i64 x.Thing, .i .i64 x.At, .i .i64 x.State] := _root_.id rfl
instance (yxId : Int) (yxWho : Int) (yxThing : Int) (yxAt : Int) (yxState : Int)  : EncR cClaim [.i .i64 yxId, .i .i64 yxWho, .i .i64 yxThing, .i .i64 yxAt, .i .i64 yxState] (⟨yxId, yxWho, yxThing, yxAt, yxState⟩ : Claim) := ⟨by rfl⟩
theorem ld_Claim (xs : List Claim) : lendRows (xs.map cClaim) = xs.map cClaim := t_lend (fun x => by simp only [e_cClaim, lendRow, lendc]) xs
theorem cl_Claim (xs : List Claim) : cleanRows (xs.map cClaim) = true := t_clean (fun x => by simp only [e_cClaim, cleans, AV.clean, Bool.and_self]) xs
theorem et_Claim (x : Claim) : (⟨x.Id, x.Who, x.Thing, x.At, x.State⟩ : Claim) = x := _root_.id rfl
def cTrial (x : Trial) : List AV := [.i .i64 x.Claim, .i .i64 x.Asked, .i .i64 x.Right, .i .i64 x.Wrong]
theorem e_cTrial (x : Trial) : cTrial x = [.i .i64 x.Claim, .i .i64 x.Asked, .i .i64 x.Right, .i .i64 x.Wrong] := _root_.id rfl
instance (yxClaim : Int) (yxAsked : Int) (yxRight : Int) (yxWrong : Int)  : EncR cTrial [.i .i64 yxClaim, .i .i64 yxAsked, .i .i64 yxRight, .i .i64 yxWrong] (⟨yxClaim, yxAsked, yxRight, yxWrong⟩ : Trial) := ⟨by rfl⟩
theorem ld_Trial (xs : List Trial) : lendRows (xs.map cTrial) = xs.map cTrial := t_lend (fun x => by simp only [e_cTrial, lendRow, lendc]) xs
theorem cl_Trial (xs : List Trial) : cleanRows (xs.map cTrial) = true := t_clean (fun x => by simp only [e_cTrial, cleans, AV.clean, Bool.and_self]) xs
theorem et_Trial (x : Trial) : (⟨x.Claim, x.Asked, x.Right, x.Wrong⟩ : Trial) = x := _root_.id rfl
def cHand (x : Hand) : List AV := [.i .i64 x.Thing, .i .i64 x.Holder, .i .i64 x.Who, .i .i64 x.At, .i .i64 x.Seal]
theorem e_cHand (x : Hand) : cHand x = [.i .i64 x.Thing, .i .i64 x.Holder, .i .i64 x.Who, .i .i64 x.At, .i .i64 x.Seal] := _root_.id rfl
instance (yxThing : Int) (yxHolder : Int) (yxWho : Int) (yxAt : Int) (yxSeal : Int)  : EncR cHand [.i .i64 yxThing, .i .i64 yxHolder, .i .i64 yxWho, .i .i64 yxAt, .i .i64 yxSeal] (⟨yxThing, yxHolder, yxWho, yxAt, yxSeal⟩ : Hand) := ⟨by rfl⟩
theorem ld_Hand (xs : List Hand) : lendRows (xs.map cHand) = xs.map cHand := t_lend (fun x => by simp only [e_cHand, lendRow, lendc]) xs
theorem cl_Hand (xs : List Hand) : cleanRows (xs.map cHand) = true := t_clean (fun x => by simp only [e_cHand, cleans, AV.clean, Bool.and_self]) xs
theorem et_Hand (x : Hand) : (⟨x.Thing, x.Holder, x.Who, x.At, x.Seal⟩ : Hand) = x := _root_.id rfl
def cEntry (x : Entry) : List AV := [.i .i64 x.From, .i .i64 x.To, .i .i64 x.Cents, .i .i64 x.At]
theorem e_cEntry (x : Entry) : cEntry x = [.i .i64 x.From, .i .i64 x.To, .i .i64 x.Cents, .i .i64 x.At] := _root_.id rfl
instance (yxFrom : Int) (yxTo : Int) (yxCents : Int) (yxAt : Int)  : EncR cEntry [.i .i64 yxFrom, .i .i64 yxTo, .i .i64 yxCents, .i .i64 yxAt] (⟨yxFrom, yxTo, yxCents, yxAt⟩ : Entry) := ⟨by rfl⟩
theorem ld_Entry (xs : List Entry) : lendRows (xs.map cEntry) = xs.map cEntry := t_lend (fun x => by simp only [e_cEntry, lendRow, lendc]) xs
theorem cl_Entry (xs : List Entry) : cleanRows (xs.map cEntry) = true := t_clean (fun x => by simp only [e_cEntry, cleans, AV.clean, Bool.and_self]) xs
theorem et_Entry (x : Entry) : (⟨x.From, x.To, x.Cents, x.At⟩ : Entry) = x := _root_.id rfl
def cHouse (x : House) : List AV := [.i .i64 x.No, .imm 8 (x.Finds.map cFind), .imm 3 (x.Secrets.map cSecret), .imm 3 (x.Slots.map cSlot), .imm 5 (x.Claims.map cClaim), .imm 4 (x.Trials.map cTrial), .imm 5 (x.Chain.map cHand), .imm 4 (x.Book.map cEntry), .i .i64 x.Now]
theorem e_cHouse (x : House) : cHouse x = [.i .i64 x.No, .imm 8 (x.Finds.map cFind), .imm 3 (x.Secrets.map cSecret), .imm 3 (x.Slots.map cSlot), .imm 5 (x.Claims.map cClaim), .imm 4 (x.Trials.map cTrial), .imm 5 (x.Chain.map cHand), .imm 4 (x.Book.map cEntry), .i .i64 x.Now] := _root_.id rfl
instance (yxNo : Int) {R1} {yxFinds : List Find} {R2} {yxSecrets : List Secret} {R3} {yxSlots : List Slot} {R4} {yxClaims : List Claim} {R5} {yxTrials : List Trial} {R6} {yxChain : List Hand} {R7} {yxBook : List Entry} (yxNow : Int) [H1 : EncL cFind R1 yxFinds] [H2 : EncL cSecret R2 yxSecrets] [H3 : EncL cSlot R3 yxSlots] [H4 : EncL cClaim R4 yxClaims] [H5 : EncL cTrial R5 yxTrials] [H6 : EncL cHand R6 yxChain] [H7 : EncL cEntry R7 yxBook] : EncR cHouse [.i .i64 yxNo, .imm 8 R1, .imm 3 R2, .imm 3 R3, .imm 5 R4, .imm 4 R5, .imm 5 R6, .imm 4 R7, .i .i64 yxNow] (⟨yxNo, yxFinds, yxSecrets, yxSlots, yxClaims, yxTrials, yxChain, yxBook, yxNow⟩ : House) := ⟨by obtain ⟨rfl⟩ := H1; obtain ⟨rfl⟩ := H2; obtain ⟨rfl⟩ := H3; obtain ⟨rfl⟩ := H4; obtain ⟨rfl⟩ := H5; obtain ⟨rfl⟩ := H6; obtain ⟨rfl⟩ := H7; rfl⟩
def cHouseO (x : House) : List AV := [.i .i64 x.No, .own 8 (x.Finds.map cFind), .own 3 (x.Secrets.map cSecretO), .own 3 (x.Slots.map cSlot), .own 5 (x.Claims.map cClaim), .own 4 (x.Trials.map cTrial), .own 5 (x.Chain.map cHand), .own 4 (x.Book.map cEntry), .i .i64 x.Now]
theorem e_cHouseO (x : House) : cHouseO x = [.i .i64 x.No, .own 8 (x.Finds.map cFind), .own 3 (x.Secrets.map cSecretO), .own 3 (x.Slots.map cSlot), .own 5 (x.Claims.map cClaim), .own 4 (x.Trials.map cTrial), .own 5 (x.Chain.map cHand), .own 4 (x.Book.map cEntry), .i .i64 x.Now] := _root_.id rfl
instance (yxNo : Int) {R1} {yxFinds : List Find} {R2} {yxSecrets : List Secret} {R3} {yxSlots : List Slot} {R4} {yxClaims : List Claim} {R5} {yxTrials : List Trial} {R6} {yxChain : List Hand} {R7} {yxBook : List Entry} (yxNow : Int) [H1 : EncL cFind R1 yxFinds] [H2 : EncL cSecretO R2 yxSecrets] [H3 : EncL cSlot R3 yxSlots] [H4 : EncL cClaim R4 yxClaims] [H5 : EncL cTrial R5 yxTrials] [H6 : EncL cHand R6 yxChain] [H7 : EncL cEntry R7 yxBook] : EncR cHouseO [.i .i64 yxNo, .own 8 R1, .own 3 R2, .own 3 R3, .own 5 R4, .own 4 R5, .own 5 R6, .own 4 R7, .i .i64 yxNow] (⟨yxNo, yxFinds, yxSecrets, yxSlots, yxClaims, yxTrials, yxChain, yxBook, yxNow⟩ : House) := ⟨by obtain ⟨rfl⟩ := H1; obtain ⟨rfl⟩ := H2; obtain ⟨rfl⟩ := H3; obtain ⟨rfl⟩ := H4; obtain ⟨rfl⟩ := H5; obtain ⟨rfl⟩ := H6; obtain ⟨rfl⟩ := H7; rfl⟩
theorem ld_House (xs : List House) : lendRows (xs.map cHouseO) = xs.map cHouse := t_lend (fun x => by simp only [e_cHouseO, e_cHouse, lendRow, lendc, ld_Claim, ld_Entry, ld_Find, ld_Hand, ld_Secret, ld_Slot, ld_Trial]) xs
theorem cl_House (xs : List House) : cleanRows (xs.map cHouseO) = true := t_clean (fun x => by simp only [e_cHouseO, cleans, AV.clean, Bool.and_self, cl_Claim, cl_Entry, cl_Find, cl_Hand, cl_Secret, cl_Slot, cl_Trial]) xs
theorem et_House (x : House) : (⟨x.No, x.Finds, x.Secrets, x.Slots, x.Claims, x.Trials, x.Chain, x.Book, x.Now⟩ : House) = x := _root_.id rfl
def c_li64 (x : List Int) : List AV := [.imm 1 (x.map c_i64)]
theorem e_c_li64 (x : List Int) : c_li64 x = [.imm 1 (x.map c_i64)] := _root_.id rfl
instance {R} {x : List Int} [H : EncL c_i64 R x] : EncR c_li64 [.imm 1 R] x := ⟨by obtain ⟨rfl⟩ := H; rfl⟩
theorem ib_c_li64 {R : List (List AV)} {xs : List (List Int)} (i : Int) [h : EncL c_li64 R xs] : inb R i = inb xs i := by rw [h.eq, t_inb]
theorem ro_c_li64 {R : List (List AV)} {xs : List (List Int)} (i : Int) [h : EncL c_li64 R xs] (hi : inb xs i = true) : rowOf R i.toNat = c_li64 (gt xs i) := by rw [h.eq, t_row xs i hi]
def encs := And.intro @e_c_i64 <| And.intro @ld_i64 <| And.intro @cl_i64 <| And.intro @ib_i64 <| And.intro @ro_i64 <| And.intro @e_c_u8 <| And.intro @ld_u8 <| And.intro @cl_u8 <| And.intro @ib_u8 <| And.intro @ro_u8 <| And.intro @e_c_b <| And.intro @ld_b <| And.intro @cl_b <| And.intro @ib_b <| And.intro @ro_b <| And.intro @e_c_s <| And.intro @ld_s <| And.intro @cl_s <| And.intro @ib_s <| And.intro @ro_s <| And.intro @e_cThing <| And.intro @ld_Thing <| And.intro @cl_Thing <| And.intro @et_Thing <| And.intro @e_cFind <| And.intro @ld_Find <| And.intro @cl_Find <| And.intro @et_Find <| And.intro @e_cMark <| And.intro @ld_Mark <| And.intro @cl_Mark <| And.intro @et_Mark <| And.intro @e_cSecret <| And.intro @ld_Secret <| And.intro @cl_Secret <| And.intro @et_Secret <| And.intro @e_cSecretO <| And.intro @e_cSlot <| And.intro @ld_Slot <| And.intro @cl_Slot <| And.intro @et_Slot <| And.intro @e_cClaim <| And.intro @ld_Claim <| And.intro @cl_Claim <| And.intro @et_Claim <| And.intro @e_cTrial <| And.intro @ld_Trial <| And.intro @cl_Trial <| And.intro @et_Trial <| And.intro @e_cHand <| And.intro @ld_Hand <| And.intro @cl_Hand <| And.intro @et_Hand <| And.intro @e_cEntry <| And.intro @ld_Entry <| And.intro @cl_Entry <| And.intro @et_Entry <| And.intro @e_cHouse <| And.intro @ld_House <| And.intro @cl_House <| And.intro @et_House <| And.intro @e_cHouseO <| And.intro @e_c_li64 <| And.intro @ib_c_li64 @ro_c_li64
theorem ty0 : flT Try.prog 129 = false := by kernel_rfl
theorem ty1 : slz Try.prog 9 129 = [0, 2, 0] := by kernel_rfl
theorem ty2 : slzE Try.prog 117 = [0] := by kernel_rfl
theorem ty3 : slzE Try.prog 165 = [1] := by kernel_rfl
theorem ty4 : slzE Try.prog 28 = [0, 0, 0, 0, 0, 0, 0, 0] := by kernel_rfl
theorem ty5 : slzE Try.prog 30 = [0, 0] := by kernel_rfl
theorem ty6 : slzE Try.prog 49 = [0, 2, 0] := by kernel_rfl
theorem ty7 : slzE Try.prog 50 = [0, 0, 0] := by kernel_rfl
theorem ty8 : slzE Try.prog 51 = [0, 0, 0, 0, 0] := by kernel_rfl
theorem ty9 : slzE Try.prog 52 = [0, 0, 0, 0] := by kernel_rfl
theorem ty10 : slzE Try.prog 53 = [0, 0, 0, 0, 0] := by kernel_rfl
theorem ty11 : slzE Try.prog 54 = [0, 0, 0, 0] := by kernel_rfl
theorem ty12 : tb Try.prog 110 = some 40 := by kernel_rfl
theorem ty13 : tb Try.prog 113 = some 24 := by kernel_rfl
theorem ty14 : tb Try.prog 115 = some 32 := by kernel_rfl
theorem ty15 : tb Try.prog 129 = some 40 := by kernel_rfl
theorem ty16 : tb Try.prog 3 = some 8 := by kernel_rfl
theorem ty17 : tb Try.prog 61 = some 32 := by kernel_rfl
theorem ty18 : tb Try.prog 71 = some 64 := by kernel_rfl
theorem ty19 : tb Try.prog 80 = some 16 := by kernel_rfl
theorem ty20 : tb Try.prog 95 = some 40 := by kernel_rfl
theorem ty21 : teqP Try.prog 4 = some [.t] := by kernel_rfl
theorem ty22 : tfo Try.prog 110 0 = some (0, .one) := by kernel_rfl
theorem ty23 : tfo Try.prog 110 1 = some (1, .one) := by kernel_rfl
theorem ty24 : tfo Try.prog 110 2 = some (2, .one) := by kernel_rfl
theorem ty25 : tfo Try.prog 110 3 = some (3, .one) := by kernel_rfl
theorem ty26 : tfo Try.prog 110 4 = some (4, .one) := by kernel_rfl
theorem ty27 : tfo Try.prog 113 0 = some (0, .one) := by kernel_rfl
theorem ty28 : tfo Try.prog 113 1 = some (1, .one) := by kernel_rfl
theorem ty29 : tfo Try.prog 113 2 = some (2, .one) := by kernel_rfl
theorem ty30 : tfo Try.prog 115 0 = some (0, .one) := by kernel_rfl
theorem ty31 : tfo Try.prog 115 1 = some (1, .one) := by kernel_rfl
theorem ty32 : tfo Try.prog 115 2 = some (2, .one) := by kernel_rfl
theorem ty33 : tfo Try.prog 115 3 = some (3, .one) := by kernel_rfl
theorem ty34 : tfo Try.prog 127 0 = some (0, .one) := by kernel_rfl
theorem ty35 : tfo Try.prog 127 1 = some (1, .one) := by kernel_rfl
theorem ty36 : tfo Try.prog 127 2 = some (2, .one) := by kernel_rfl
theorem ty37 : tfo Try.prog 129 0 = some (0, .one) := by kernel_rfl
theorem ty38 : tfo Try.prog 129 1 = some (1, .one) := by kernel_rfl
theorem ty39 : tfo Try.prog 129 2 = some (2, .one) := by kernel_rfl
theorem ty40 : tfo Try.prog 132 0 = some (0, .one) := by kernel_rfl
theorem ty41 : tfo Try.prog 132 1 = some (1, .one) := by kernel_rfl
theorem ty42 : tfo Try.prog 132 2 = some (2, .one) := by kernel_rfl
theorem ty43 : tfo Try.prog 134 0 = some (0, .one) := by kernel_rfl
theorem ty44 : tfo Try.prog 134 1 = some (1, .one) := by kernel_rfl
theorem ty45 : tfo Try.prog 134 2 = some (2, .one) := by kernel_rfl
theorem ty46 : tfo Try.prog 134 3 = some (3, .one) := by kernel_rfl
theorem ty47 : tfo Try.prog 134 4 = some (4, .one) := by kernel_rfl
theorem ty48 : tfo Try.prog 136 0 = some (0, .one) := by kernel_rfl
theorem ty49 : tfo Try.prog 136 1 = some (1, .one) := by kernel_rfl
theorem ty50 : tfo Try.prog 136 2 = some (2, .one) := by kernel_rfl
theorem ty51 : tfo Try.prog 136 3 = some (3, .one) := by kernel_rfl
theorem ty52 : tfo Try.prog 138 0 = some (0, .one) := by kernel_rfl
theorem ty53 : tfo Try.prog 138 1 = some (1, .one) := by kernel_rfl
theorem ty54 : tfo Try.prog 138 2 = some (2, .one) := by kernel_rfl
theorem ty55 : tfo Try.prog 138 3 = some (3, .one) := by kernel_rfl
theorem ty56 : tfo Try.prog 138 4 = some (4, .one) := by kernel_rfl
theorem ty57 : tfo Try.prog 140 0 = some (0, .one) := by kernel_rfl
theorem ty58 : tfo Try.prog 140 1 = some (1, .one) := by kernel_rfl
theorem ty59 : tfo Try.prog 140 2 = some (2, .one) := by kernel_rfl
theorem ty60 : tfo Try.prog 140 3 = some (3, .one) := by kernel_rfl
theorem ty61 : tfo Try.prog 46 0 = some (0, .one) := by kernel_rfl
theorem ty62 : tfo Try.prog 46 1 = some (1, .one) := by kernel_rfl
theorem ty63 : tfo Try.prog 46 2 = some (2, .one) := by kernel_rfl
theorem ty64 : tfo Try.prog 46 3 = some (3, .one) := by kernel_rfl
theorem ty65 : tfo Try.prog 46 4 = some (4, .one) := by kernel_rfl
theorem ty66 : tfo Try.prog 46 5 = some (5, .one) := by kernel_rfl
theorem ty67 : tfo Try.prog 46 6 = some (6, .one) := by kernel_rfl
theorem ty68 : tfo Try.prog 46 7 = some (7, .one) := by kernel_rfl
theorem ty69 : tfo Try.prog 46 8 = some (8, .one) := by kernel_rfl
theorem ty70 : tfo Try.prog 56 0 = some (0, .one) := by kernel_rfl
theorem ty71 : tfo Try.prog 56 1 = some (1, .one) := by kernel_rfl
theorem ty72 : tfo Try.prog 56 2 = some (2, .one) := by kernel_rfl
theorem ty73 : tfo Try.prog 56 3 = some (3, .one) := by kernel_rfl
theorem ty74 : tfo Try.prog 56 4 = some (4, .one) := by kernel_rfl
theorem ty75 : tfo Try.prog 56 5 = some (5, .one) := by kernel_rfl
theorem ty76 : tfo Try.prog 56 6 = some (6, .one) := by kernel_rfl
theorem ty77 : tfo Try.prog 56 7 = some (7, .one) := by kernel_rfl
theorem ty78 : tfo Try.prog 56 8 = some (8, .one) := by kernel_rfl
theorem ty79 : tfo Try.prog 61 0 = some (0, .one) := by kernel_rfl
theorem ty80 : tfo Try.prog 61 1 = some (1, .one) := by kernel_rfl
theorem ty81 : tfo Try.prog 61 2 = some (2, .one) := by kernel_rfl
theorem ty82 : tfo Try.prog 61 3 = some (3, .one) := by kernel_rfl
theorem ty83 : tfo Try.prog 69 0 = some (0, .one) := by kernel_rfl
theorem ty84 : tfo Try.prog 69 1 = some (1, .one) := by kernel_rfl
theorem ty85 : tfo Try.prog 69 2 = some (2, .one) := by kernel_rfl
theorem ty86 : tfo Try.prog 69 3 = some (3, .one) := by kernel_rfl
theorem ty87 : tfo Try.prog 69 4 = some (4, .one) := by kernel_rfl
theorem ty88 : tfo Try.prog 71 0 = some (0, .agg 5) := by kernel_rfl
theorem ty89 : tfo Try.prog 71 1 = some (5, .one) := by kernel_rfl
theorem ty90 : tfo Try.prog 71 2 = some (6, .one) := by kernel_rfl
theorem ty91 : tfo Try.prog 71 3 = some (7, .one) := by kernel_rfl
theorem ty92 : tfo Try.prog 76 0 = some (0, .one) := by kernel_rfl
theorem ty93 : tfo Try.prog 76 1 = some (1, .one) := by kernel_rfl
theorem ty94 : tfo Try.prog 76 2 = some (2, .one) := by kernel_rfl
theorem ty95 : tfo Try.prog 76 3 = some (3, .one) := by kernel_rfl
theorem ty96 : tfo Try.prog 76 4 = some (4, .one) := by kernel_rfl
theorem ty97 : tfo Try.prog 78 0 = some (0, .agg 5) := by kernel_rfl
theorem ty98 : tfo Try.prog 78 1 = some (5, .one) := by kernel_rfl
theorem ty99 : tfo Try.prog 78 2 = some (6, .one) := by kernel_rfl
theorem ty100 : tfo Try.prog 78 3 = some (7, .one) := by kernel_rfl
theorem ty101 : tfo Try.prog 80 0 = some (0, .one) := by kernel_rfl
theorem ty102 : tfo Try.prog 80 1 = some (1, .one) := by kernel_rfl
theorem ty103 : tfo Try.prog 82 0 = some (0, .one) := by kernel_rfl
theorem ty104 : tfo Try.prog 82 1 = some (1, .one) := by kernel_rfl
theorem ty105 : tfo Try.prog 95 0 = some (0, .one) := by kernel_rfl
theorem ty106 : tfo Try.prog 95 1 = some (1, .one) := by kernel_rfl
theorem ty107 : tfo Try.prog 95 2 = some (2, .one) := by kernel_rfl
theorem ty108 : tfo Try.prog 95 3 = some (3, .one) := by kernel_rfl
theorem ty109 : tfo Try.prog 95 4 = some (4, .one) := by kernel_rfl
theorem ty110 : ti Try.prog 117 = .sl 3 1 := by kernel_rfl
theorem ty111 : ti Try.prog 165 = .sl 117 1 := by kernel_rfl
theorem ty112 : ti Try.prog 22 = .sl 78 8 := by kernel_rfl
theorem ty113 : ti Try.prog 23 = .sl 82 2 := by kernel_rfl
theorem ty114 : ti Try.prog 28 = .sl 71 8 := by kernel_rfl
theorem ty115 : ti Try.prog 30 = .sl 80 2 := by kernel_rfl
theorem ty116 : ti Try.prog 39 = .sl 127 3 := by kernel_rfl
theorem ty117 : ti Try.prog 40 = .sl 132 3 := by kernel_rfl
theorem ty118 : ti Try.prog 41 = .sl 134 5 := by kernel_rfl
theorem ty119 : ti Try.prog 42 = .sl 136 4 := by kernel_rfl
theorem ty120 : ti Try.prog 43 = .sl 138 5 := by kernel_rfl
theorem ty121 : ti Try.prog 44 = .sl 140 4 := by kernel_rfl
theorem ty122 : ti Try.prog 49 = .sl 129 3 := by kernel_rfl
theorem ty123 : ti Try.prog 50 = .sl 113 3 := by kernel_rfl
theorem ty124 : ti Try.prog 51 = .sl 95 5 := by kernel_rfl
theorem ty125 : ti Try.prog 52 = .sl 61 4 := by kernel_rfl
theorem ty126 : ti Try.prog 53 = .sl 110 5 := by kernel_rfl
theorem ty127 : ti Try.prog 54 = .sl 115 4 := by kernel_rfl
theorem ty128 : tk Try.prog 110 = .agg 5 := by kernel_rfl
theorem ty129 : tk Try.prog 113 = .agg 3 := by kernel_rfl
theorem ty130 : tk Try.prog 115 = .agg 4 := by kernel_rfl
theorem ty131 : tk Try.prog 117 = .one := by kernel_rfl
theorem ty132 : tk Try.prog 127 = .agg 3 := by kernel_rfl
theorem ty133 : tk Try.prog 129 = .agg 3 := by kernel_rfl
theorem ty134 : tk Try.prog 132 = .agg 3 := by kernel_rfl
theorem ty135 : tk Try.prog 134 = .agg 5 := by kernel_rfl
theorem ty136 : tk Try.prog 136 = .agg 4 := by kernel_rfl
theorem ty137 : tk Try.prog 138 = .agg 5 := by kernel_rfl
theorem ty138 : tk Try.prog 140 = .agg 4 := by kernel_rfl
theorem ty139 : tk Try.prog 22 = .one := by kernel_rfl
theorem ty140 : tk Try.prog 23 = .one := by kernel_rfl
theorem ty141 : tk Try.prog 28 = .one := by kernel_rfl
theorem ty142 : tk Try.prog 3 = .one := by kernel_rfl
theorem ty143 : tk Try.prog 30 = .one := by kernel_rfl
theorem ty144 : tk Try.prog 39 = .one := by kernel_rfl
theorem ty145 : tk Try.prog 40 = .one := by kernel_rfl
theorem ty146 : tk Try.prog 41 = .one := by kernel_rfl
theorem ty147 : tk Try.prog 42 = .one := by kernel_rfl
theorem ty148 : tk Try.prog 43 = .one := by kernel_rfl
theorem ty149 : tk Try.prog 44 = .one := by kernel_rfl
theorem ty150 : tk Try.prog 46 = .agg 9 := by kernel_rfl
theorem ty151 : tk Try.prog 49 = .one := by kernel_rfl
theorem ty152 : tk Try.prog 50 = .one := by kernel_rfl
theorem ty153 : tk Try.prog 51 = .one := by kernel_rfl
theorem ty154 : tk Try.prog 52 = .one := by kernel_rfl
theorem ty155 : tk Try.prog 53 = .one := by kernel_rfl
theorem ty156 : tk Try.prog 54 = .one := by kernel_rfl
theorem ty157 : tk Try.prog 56 = .agg 9 := by kernel_rfl
theorem ty158 : tk Try.prog 61 = .agg 4 := by kernel_rfl
theorem ty159 : tk Try.prog 69 = .agg 5 := by kernel_rfl
theorem ty160 : tk Try.prog 71 = .agg 8 := by kernel_rfl
theorem ty161 : tk Try.prog 76 = .agg 5 := by kernel_rfl
theorem ty162 : tk Try.prog 78 = .agg 8 := by kernel_rfl
theorem ty163 : tk Try.prog 80 = .agg 2 := by kernel_rfl
theorem ty164 : tk Try.prog 82 = .agg 2 := by kernel_rfl
theorem ty165 : tk Try.prog 95 = .agg 5 := by kernel_rfl
theorem ty166 : tnoint Try.prog 117 = true := by kernel_rfl
theorem ty167 : tse Try.prog 117 = some (3, 1, [.i .i64 0]) := by kernel_rfl
theorem ty168 : tse Try.prog 165 = some (117, 1, [.nil]) := by kernel_rfl
theorem ty169 : tse Try.prog 28 = some (71, 8, [.i .i64 0, .i .i64 0, .i .i64 0, .i .i64 0, .i .i64 0, .i .i64 0, .i .i64 0, .i .i64 0]) := by kernel_rfl
theorem ty170 : tse Try.prog 30 = some (80, 2, [.i .i64 0, .i .i64 0]) := by kernel_rfl
theorem ty171 : tse Try.prog 49 = some (129, 3, [.i .i64 0, .nil, .i .i64 0]) := by kernel_rfl
theorem ty172 : tse Try.prog 50 = some (113, 3, [.i .i64 0, .i .i64 0, .i .i64 0]) := by kernel_rfl
theorem ty173 : tse Try.prog 51 = some (95, 5, [.i .i64 0, .i .i64 0, .i .i64 0, .i .i64 0, .i .i64 0]) := by kernel_rfl
theorem ty174 : tse Try.prog 52 = some (61, 4, [.i .i64 0, .i .i64 0, .i .i64 0, .i .i64 0]) := by kernel_rfl
theorem ty175 : tse Try.prog 53 = some (110, 5, [.i .i64 0, .i .i64 0, .i .i64 0, .i .i64 0, .i .i64 0]) := by kernel_rfl
theorem ty176 : tse Try.prog 54 = some (115, 4, [.i .i64 0, .i .i64 0, .i .i64 0, .i .i64 0]) := by kernel_rfl
theorem ty177 : tzc Try.prog 110 = some [.i .i64 0, .i .i64 0, .i .i64 0, .i .i64 0, .i .i64 0] := by kernel_rfl
theorem ty178 : tzc Try.prog 113 = some [.i .i64 0, .i .i64 0, .i .i64 0] := by kernel_rfl
theorem ty179 : tzc Try.prog 115 = some [.i .i64 0, .i .i64 0, .i .i64 0, .i .i64 0] := by kernel_rfl
theorem ty180 : tzc Try.prog 129 = some [.i .i64 0, .nil, .i .i64 0] := by kernel_rfl
theorem ty181 : tzc Try.prog 56 = some [.i .i64 0, .nil, .nil, .nil, .nil, .nil, .nil, .nil, .i .i64 0] := by kernel_rfl
theorem ty182 : tzc Try.prog 61 = some [.i .i64 0, .i .i64 0, .i .i64 0, .i .i64 0] := by kernel_rfl
theorem ty183 : tzc Try.prog 69 = some [.i .i64 0, .i .i64 0, .i .i64 0, .i .i64 0, .i .i64 0] := by kernel_rfl
theorem ty184 : tzc Try.prog 71 = some [.i .i64 0, .i .i64 0, .i .i64 0, .i .i64 0, .i .i64 0, .i .i64 0, .i .i64 0, .i .i64 0] := by kernel_rfl
theorem ty185 : tzc Try.prog 80 = some [.i .i64 0, .i .i64 0] := by kernel_rfl
theorem ty186 : tzc Try.prog 95 = some [.i .i64 0, .i .i64 0, .i .i64 0, .i .i64 0, .i .i64 0] := by kernel_rfl
def tys := And.intro @ty0 <| And.intro @ty1 <| And.intro @ty2 <| And.intro @ty3 <| And.intro @ty4 <| And.intro @ty5 <| And.intro @ty6 <| And.intro @ty7 <| And.intro @ty8 <| And.intro @ty9 <| And.intro @ty10 <| And.intro @ty11 <| And.intro @ty12 <| And.intro @ty13 <| And.intro @ty14 <| And.intro @ty15 <| And.intro @ty16 <| And.intro @ty17 <| And.intro @ty18 <| And.intro @ty19 <| And.intro @ty20 <| And.intro @ty21 <| And.intro @ty22 <| And.intro @ty23 <| And.intro @ty24 <| And.intro @ty25 <| And.intro @ty26 <| And.intro @ty27 <| And.intro @ty28 <| And.intro @ty29 <| And.intro @ty30 <| And.intro @ty31 <| And.intro @ty32 <| And.intro @ty33 <| And.intro @ty34 <| And.intro @ty35 <| And.intro @ty36 <| And.intro @ty37 <| And.intro @ty38 <| And.intro @ty39 <| And.intro @ty40 <| And.intro @ty41 <| And.intro @ty42 <| And.intro @ty43 <| And.intro @ty44 <| And.intro @ty45 <| And.intro @ty46 <| And.intro @ty47 <| And.intro @ty48 <| And.intro @ty49 <| And.intro @ty50 <| And.intro @ty51 <| And.intro @ty52 <| And.intro @ty53 <| And.intro @ty54 <| And.intro @ty55 <| And.intro @ty56 <| And.intro @ty57 <| And.intro @ty58 <| And.intro @ty59 <| And.intro @ty60 <| And.intro @ty61 <| And.intro @ty62 <| And.intro @ty63 <| And.intro @ty64 <| And.intro @ty65 <| And.intro @ty66 <| And.intro @ty67 <| And.intro @ty68 <| And.intro @ty69 <| And.intro @ty70 <| And.intro @ty71 <| And.intro @ty72 <| And.intro @ty73 <| And.intro @ty74 <| And.intro @ty75 <| And.intro @ty76 <| And.intro @ty77 <| And.intro @ty78 <| And.intro @ty79 <| And.intro @ty80 <| And.intro @ty81 <| And.intro @ty82 <| And.intro @ty83 <| And.intro @ty84 <| And.intro @ty85 <| And.intro @ty86 <| And.intro @ty87 <| And.intro @ty88 <| And.intro @ty89 <| And.intro @ty90 <| And.intro @ty91 <| And.intro @ty92 <| And.intro @ty93 <| And.intro @ty94 <| And.intro @ty95 <| And.intro @ty96 <| And.intro @ty97 <| And.intro @ty98 <| And.intro @ty99 <| And.intro @ty100 <| And.intro @ty101 <| And.intro @ty102 <| And.intro @ty103 <| And.intro @ty104 <| And.intro @ty105 <| And.intro @ty106 <| And.intro @ty107 <| And.intro @ty108 <| And.intro @ty109 <| And.intro @ty110 <| And.intro @ty111 <| And.intro @ty112 <| And.intro @ty113 <| And.intro @ty114 <| And.intro @ty115 <| And.intro @ty116 <| And.intro @ty117 <| And.intro @ty118 <| And.intro @ty119 <| And.intro @ty120 <| And.intro @ty121 <| And.intro @ty122 <| And.intro @ty123 <| And.intro @ty124 <| And.intro @ty125 <| And.intro @ty126 <| And.intro @ty127 <| And.intro @ty128 <| And.intro @ty129 <| And.intro @ty130 <| And.intro @ty131 <| And.intro @ty132 <| And.intro @ty133 <| And.intro @ty134 <| And.intro @ty135 <| And.intro @ty136 <| And.intro @ty137 <| And.intro @ty138 <| And.intro @ty139 <| And.intro @ty140 <| And.intro @ty141 <| And.intro @ty142 <| And.intro @ty143 <| And.intro @ty144 <| And.intro @ty145 <| And.intro @ty146 <| And.intro @ty147 <| And.intro @ty148 <| And.intro @ty149 <| And.intro @ty150 <| And.intro @ty151 <| And.intro @ty152 <| And.intro @ty153 <| And.intro @ty154 <| And.intro @ty155 <| And.intro @ty156 <| And.intro @ty157 <| And.intro @ty158 <| And.intro @ty159 <| And.intro @ty160 <| And.intro @ty161 <| And.intro @ty162 <| And.intro @ty163 <| And.intro @ty164 <| And.intro @ty165 <| And.intro @ty166 <| And.intro @ty167 <| And.intro @ty168 <| And.intro @ty169 <| And.intro @ty170 <| And.intro @ty171 <| And.intro @ty172 <| And.intro @ty173 <| And.intro @ty174 <| And.intro @ty175 <| And.intro @ty176 <| And.intro @ty177 <| And.intro @ty178 <| And.intro @ty179 <| And.intro @ty180 <| And.intro @ty181 <| And.intro @ty182 <| And.intro @ty183 <| And.intro @ty184 <| And.intro @ty185 @ty186
def xt (g : Nat) (args : List AV) : Option AV := match args with
  | [.nil, .i .i64 x] => if g = 133 then (slices_Grow_int x).map fun r => .own 1 (r.map c_i64) else none
  | _ => none
noncomputable def T : Tld := ⟨Try.prog, [(9, {}), (10, {}), (11, {}), (13, { lp := [(3, ⟨[0, 3, 4], [.s 3 8], [3], [.s 3 8]⟩)], sh := [.z 8] }), (14, { lp := [(3, ⟨[0, 3, 4], [.s 3 2], [3], [.s 3 2]⟩)], sh := [.z 2] }), (17, { lp := [(4, ⟨[0, 1, 5], [], [], []⟩)], rt := ⟨[4], [], [], []⟩ }), (18, { lp := [(4, ⟨[0, 1, 5], [], [], []⟩)], rt := ⟨[4], [], [], []⟩ }), (23, {}), (25, { sh := [.a [0, 8, 3, 3, 5, 4, 5, 4, 0]] }), (27, {}), (30, {}), (37, { jn := [(7, (2, 24, 32))], lp := [(4, ⟨[1, 3, 4, 5], [.s 1 0, .s 4 1], [1, 3], [.s 1 0]⟩)] }), (38, { jn := [(7, (2, 21, 29))], lp := [(3, ⟨[1, 3, 8, 9, 10], [.s 1 0, .s 8 1], [1, 3], [.s 1 0]⟩)] }), (39, {}), (40, {}), (43, {}), (44, {}), (48, { lp := [(5, ⟨[0, 1, 5], [], [1], []⟩)], rt := ⟨[4], [], [], []⟩ }), (49, {}), (50, {}), (51, {}), (52, {}), (53, {}), (54, { lp := [(3, ⟨[0, 3, 4], [.s 3 3], [3], [.s 3 3]⟩)], sh := [.z 3] }), (55, { lp := [(3, ⟨[0, 3, 4], [.s 3 3], [3], [.s 3 3]⟩)], sh := [.z 3] }), (56, { lp := [(3, ⟨[0, 3, 4], [.s 3 5], [3], [.s 3 5]⟩)], sh := [.z 5] }), (57, { lp := [(3, ⟨[0, 3, 4], [.s 3 4], [3], [.s 3 4]⟩)], sh := [.z 4] }), (58, { lp := [(3, ⟨[0, 3, 4], [.s 3 5], [3], [.s 3 5]⟩)], sh := [.z 5] }), (59, { lp := [(3, ⟨[0, 3, 4], [.s 3 4], [3], [.s 3 4]⟩)], sh := [.z 4] }), (60, { lp := [(4, ⟨[0, 1, 5], [], [], []⟩)], rt := ⟨[4], [], [], []⟩ }), (61, { lp := [(4, ⟨[0, 1, 5], [], [], []⟩)], rt := ⟨[4], [], [], []⟩ }), (62, { lp := [(4, ⟨[0, 1, 5], [], [], []⟩)], rt := ⟨[4], [], [], []⟩ }), (63, { lp := [(4, ⟨[0, 1, 5], [], [], []⟩)], rt := ⟨[4], [], [], []⟩ }), (64, { lp := [(4, ⟨[0, 1, 5], [], [], []⟩)], rt := ⟨[4], [], [], []⟩ }), (65, { lp := [(4, ⟨[0, 1, 5], [], [], []⟩)], rt := ⟨[4], [], [], []⟩ }), (83, { ord := [(5, [0, 1, 2, 3, 4, 5, 7, 8, 9, 10, 11, 6, 12, 13])], lp := [(3, ⟨[0, 3, 4], [.s 3 1], [3], [.s 3 1]⟩)], sh := [.z 1] }), (84, { jn := [(3, (14, 7, 14))], lp := [(3, ⟨[0, 1, 5, 6], [], [5], []⟩)] }), (85, { lp := [(3, ⟨[3, 7, 8, 9], [.s 3 1], [3], [.s 3 1]⟩)], sh := [.z 1] }), (86, {}), (87, {}), (89, {}), (90, {}), (91, { sh := [.a [0, 2, 0]] }), (92, {}), (93, {}), (94, {}), (95, {}), (96, {}), (97, {}), (98, {}), (99, {}), (100, {}), (101, {}), (116, { ot := [(6, .one 1 (.one 2 (.one 3 (.one 5 (.one 8 (.one 9 (.one 10 (.alt (.one 0 (.alt (.one 4 (.one 6 (.one 7 (.one 11 (.one 12 (.done)))))) (.one 6 (.one 4 (.one 7 (.one 11 (.one 12 (.done)))))))) (.one 6 (.one 0 (.one 4 (.one 7 (.one 11 (.one 12 (.done)))))))))))))))], jn := [(2, (17, 6, 17)), (4, (31, 20, 31))], lp := [(2, ⟨[0, 1, 5], [], [0, 1, 5], []⟩)], sh := [.z 1] }), (117, { jn := [(5, (58, 15, 58))], lp := [(2, ⟨[0, 3], [], [0], []⟩)], rt := ⟨[2], [], [], []⟩ }), (118, { ac := [(2, 0), (3, 0)], sh := [.z 1] }), (119, { jn := [(6, (58, 15, 58))], lp := [(4, ⟨[0, 8, 9, 10], [], [], []⟩)], rt := ⟨[2], [], [], []⟩ }), (120, { lp := [(3, ⟨[1, 5, 8, 9, 10], [], [5], []⟩)] }), (121, { lp := [(5, ⟨[1, 5, 12, 13, 14], [], [5], []⟩)] }), (125, { jn := [(1, (6, 7, 15))] }), (128, { jn := [(1, (6, 7, 15))] }), (130, { lp := [(3, ⟨[0, 3, 9, 10, 11], [], [0, 3], []⟩), (11, ⟨[6, 25, 26, 27], [.s 6 1], [6], [.s 6 1]⟩)], sh := [.z 1] })], xt, fun g => Nat.beq g 131, fun g => Nat.beq g 132⟩
theorem TP : T.P = Try.prog := _root_.id rfl
theorem e_slices_Grow_int (n : Nat) (x : Int) : CP T (n + 1) 133 [.nil, .i .i64 x] = (slices_Grow_int x).map fun r => .own 1 (r.map c_i64) := by rw [CP_x T n 133 _ (by kernel_rfl)]; rfl
theorem e_cI : cI = c_i64 := _root_.id rfl
theorem ints_c (xs : List Int) : intsOf (xs.map c_i64) = some xs := s_ints xs
theorem st_131 : T.st 131 = true := by kernel_rfl
theorem st_132 : T.st 132 = false := by kernel_rfl
theorem qt_132 : T.qt 132 = true := by kernel_rfl
def srt := And.intro @e_cI <| And.intro @ints_c <| And.intro @orc_s <| And.intro @orc_q <| And.intro @st_131 <| And.intro @st_132 @qt_132
theorem a9 : T.at 9 = some {} := by kernel_rfl
theorem a10 : T.at 10 = some {} := by kernel_rfl
theorem a11 : T.at 11 = some {} := by kernel_rfl
theorem a13 : T.at 13 = some { lp := [(3, ⟨[0, 3, 4], [.s 3 8], [3], [.s 3 8]⟩)], sh := [.z 8] } := by kernel_rfl
theorem a14 : T.at 14 = some { lp := [(3, ⟨[0, 3, 4], [.s 3 2], [3], [.s 3 2]⟩)], sh := [.z 2] } := by kernel_rfl
theorem a17 : T.at 17 = some { lp := [(4, ⟨[0, 1, 5], [], [], []⟩)], rt := ⟨[4], [], [], []⟩ } := by kernel_rfl
theorem a18 : T.at 18 = some { lp := [(4, ⟨[0, 1, 5], [], [], []⟩)], rt := ⟨[4], [], [], []⟩ } := by kernel_rfl
theorem a23 : T.at 23 = some {} := by kernel_rfl
theorem a25 : T.at 25 = some { sh := [.a [0, 8, 3, 3, 5, 4, 5, 4, 0]] } := by kernel_rfl
theorem a27 : T.at 27 = some {} := by kernel_rfl
theorem a30 : T.at 30 = some {} := by kernel_rfl
theorem a37 : T.at 37 = some { jn := [(7, (2, 24, 32))], lp := [(4, ⟨[1, 3, 4, 5], [.s 1 0, .s 4 1], [1, 3], [.s 1 0]⟩)] } := by kernel_rfl
theorem a38 : T.at 38 = some { jn := [(7, (2, 21, 29))], lp := [(3, ⟨[1, 3, 8, 9, 10], [.s 1 0, .s 8 1], [1, 3], [.s 1 0]⟩)] } := by kernel_rfl
theorem a39 : T.at 39 = some {} := by kernel_rfl
theorem a40 : T.at 40 = some {} := by kernel_rfl
theorem a43 : T.at 43 = some {} := by kernel_rfl
theorem a44 : T.at 44 = some {} := by kernel_rfl
theorem a48 : T.at 48 = some { lp := [(5, ⟨[0, 1, 5], [], [1], []⟩)], rt := ⟨[4], [], [], []⟩ } := by kernel_rfl
theorem a49 : T.at 49 = some {} := by kernel_rfl
theorem a50 : T.at 50 = some {} := by kernel_rfl
theorem a51 : T.at 51 = some {} := by kernel_rfl
theorem a52 : T.at 52 = some {} := by kernel_rfl
theorem a53 : T.at 53 = some {} := by kernel_rfl
theorem a54 : T.at 54 = some { lp := [(3, ⟨[0, 3, 4], [.s 3 3], [3], [.s 3 3]⟩)], sh := [.z 3] } := by kernel_rfl
theorem a55 : T.at 55 = some { lp := [(3, ⟨[0, 3, 4], [.s 3 3], [3], [.s 3 3]⟩)], sh := [.z 3] } := by kernel_rfl
theorem a56 : T.at 56 = some { lp := [(3, ⟨[0, 3, 4], [.s 3 5], [3], [.s 3 5]⟩)], sh := [.z 5] } := by kernel_rfl
theorem a57 : T.at 57 = some { lp := [(3, ⟨[0, 3, 4], [.s 3 4], [3], [.s 3 4]⟩)], sh := [.z 4] } := by kernel_rfl
theorem a58 : T.at 58 = some { lp := [(3, ⟨[0, 3, 4], [.s 3 5], [3], [.s 3 5]⟩)], sh := [.z 5] } := by kernel_rfl
theorem a59 : T.at 59 = some { lp := [(3, ⟨[0, 3, 4], [.s 3 4], [3], [.s 3 4]⟩)], sh := [.z 4] } := by kernel_rfl
theorem a60 : T.at 60 = some { lp := [(4, ⟨[0, 1, 5], [], [], []⟩)], rt := ⟨[4], [], [], []⟩ } := by kernel_rfl
theorem a61 : T.at 61 = some { lp := [(4, ⟨[0, 1, 5], [], [], []⟩)], rt := ⟨[4], [], [], []⟩ } := by kernel_rfl
theorem a62 : T.at 62 = some { lp := [(4, ⟨[0, 1, 5], [], [], []⟩)], rt := ⟨[4], [], [], []⟩ } := by kernel_rfl
theorem a63 : T.at 63 = some { lp := [(4, ⟨[0, 1, 5], [], [], []⟩)], rt := ⟨[4], [], [], []⟩ } := by kernel_rfl
theorem a64 : T.at 64 = some { lp := [(4, ⟨[0, 1, 5], [], [], []⟩)], rt := ⟨[4], [], [], []⟩ } := by kernel_rfl
theorem a65 : T.at 65 = some { lp := [(4, ⟨[0, 1, 5], [], [], []⟩)], rt := ⟨[4], [], [], []⟩ } := by kernel_rfl
theorem a83 : T.at 83 = some { ord := [(5, [0, 1, 2, 3, 4, 5, 7, 8, 9, 10, 11, 6, 12, 13])], lp := [(3, ⟨[0, 3, 4], [.s 3 1], [3], [.s 3 1]⟩)], sh := [.z 1] } := by kernel_rfl
theorem a84 : T.at 84 = some { jn := [(3, (14, 7, 14))], lp := [(3, ⟨[0, 1, 5, 6], [], [5], []⟩)] } := by kernel_rfl
theorem a85 : T.at 85 = some { lp := [(3, ⟨[3, 7, 8, 9], [.s 3 1], [3], [.s 3 1]⟩)], sh := [.z 1] } := by kernel_rfl
theorem a86 : T.at 86 = some {} := by kernel_rfl
theorem a87 : T.at 87 = some {} := by kernel_rfl
theorem a89 : T.at 89 = some {} := by kernel_rfl
theorem a90 : T.at 90 = some {} := by kernel_rfl
theorem a91 : T.at 91 = some { sh := [.a [0, 2, 0]] } := by kernel_rfl
theorem a92 : T.at 92 = some {} := by kernel_rfl
theorem a93 : T.at 93 = some {} := by kernel_rfl
theorem a94 : T.at 94 = some {} := by kernel_rfl
theorem a95 : T.at 95 = some {} := by kernel_rfl
theorem a96 : T.at 96 = some {} := by kernel_rfl
theorem a97 : T.at 97 = some {} := by kernel_rfl
theorem a98 : T.at 98 = some {} := by kernel_rfl
theorem a99 : T.at 99 = some {} := by kernel_rfl
theorem a100 : T.at 100 = some {} := by kernel_rfl
theorem a101 : T.at 101 = some {} := by kernel_rfl
theorem a116 : T.at 116 = some { ot := [(6, .one 1 (.one 2 (.one 3 (.one 5 (.one 8 (.one 9 (.one 10 (.alt (.one 0 (.alt (.one 4 (.one 6 (.one 7 (.one 11 (.one 12 (.done)))))) (.one 6 (.one 4 (.one 7 (.one 11 (.one 12 (.done)))))))) (.one 6 (.one 0 (.one 4 (.one 7 (.one 11 (.one 12 (.done)))))))))))))))], jn := [(2, (17, 6, 17)), (4, (31, 20, 31))], lp := [(2, ⟨[0, 1, 5], [], [0, 1, 5], []⟩)], sh := [.z 1] } := by kernel_rfl
theorem a117 : T.at 117 = some { jn := [(5, (58, 15, 58))], lp := [(2, ⟨[0, 3], [], [0], []⟩)], rt := ⟨[2], [], [], []⟩ } := by kernel_rfl
theorem a118 : T.at 118 = some { ac := [(2, 0), (3, 0)], sh := [.z 1] } := by kernel_rfl
theorem a119 : T.at 119 = some { jn := [(6, (58, 15, 58))], lp := [(4, ⟨[0, 8, 9, 10], [], [], []⟩)], rt := ⟨[2], [], [], []⟩ } := by kernel_rfl
theorem a120 : T.at 120 = some { lp := [(3, ⟨[1, 5, 8, 9, 10], [], [5], []⟩)] } := by kernel_rfl
theorem a121 : T.at 121 = some { lp := [(5, ⟨[1, 5, 12, 13, 14], [], [5], []⟩)] } := by kernel_rfl
theorem a125 : T.at 125 = some { jn := [(1, (6, 7, 15))] } := by kernel_rfl
theorem a128 : T.at 128 = some { jn := [(1, (6, 7, 15))] } := by kernel_rfl
theorem a130 : T.at 130 = some { lp := [(3, ⟨[0, 3, 9, 10, 11], [], [0, 3], []⟩), (11, ⟨[6, 25, 26, 27], [.s 6 1], [6], [.s 6 1]⟩)], sh := [.z 1] } := by kernel_rfl
end Go.Proofs.Ytcpelionmmnogaa
