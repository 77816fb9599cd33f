/- Types and values told as the machine has them. No condition. -/
import Derived.Test.YtaajilepbclmfaaDoorEv3
import Derived.Test.YtaajilepbclmfaaDoorFn
import Derived.Test.YtaajilepbclmfaaDoorProg
import Derived.KernelRfl
namespace Go.Proofs.YtaajilepbclmfaaDoor
open Go Go.Proofs Go.Proofs.YtaajilepbclmfaaDoor.Am
set_option linter.unusedVariables false
set_option linter.unusedSimpArgs false
set_option linter.defProp false
set_option maxRecDepth 100000
def c_i64 (x : Int) : List AV := [.i .i64 x]
theorem e_c_i64 (x : Int) : c_i64 x = [.i .i64 x] := _root_.id rfl
instance (x : Int) : EncR c_i64 [.i .i64 x] x := ⟨rfl⟩
theorem ld_i64 (xs : List Int) : lendRows (xs.map c_i64) = xs.map c_i64 := t_lend (fun x => by simp only [e_c_i64, lendRow, lendc]) xs
theorem cl_i64 (xs : List Int) : cleanRows (xs.map c_i64) = true := t_clean (fun x => by simp only [e_c_i64, cleans, AV.clean, Bool.and_self]) xs
theorem ib_i64 {R : List (List AV)} {xs : List Int} (i : Int) [h : EncL c_i64 R xs] : inb R i = inb xs i := by rw [h.eq, t_inb]
theorem ro_i64 {R : List (List AV)} {xs : List Int} (i : Int) [h : EncL c_i64 R xs] (hi : inb xs i = true) : rowOf R i.toNat = c_i64 (gt xs i) := by rw [h.eq, t_row xs i hi]
def c_u8 (x : Int) : List AV := [.i .u8 x]
theorem e_c_u8 (x : Int) : c_u8 x = [.i .u8 x] := _root_.id rfl
instance (x : Int) : EncR c_u8 [.i .u8 x] x := ⟨rfl⟩
theorem ld_u8 (xs : List Int) : lendRows (xs.map c_u8) = xs.map c_u8 := t_lend (fun x => by simp only [e_c_u8, lendRow, lendc]) xs
theorem cl_u8 (xs : List Int) : cleanRows (xs.map c_u8) = true := t_clean (fun x => by simp only [e_c_u8, cleans, AV.clean, Bool.and_self]) xs
theorem ib_u8 {R : List (List AV)} {xs : List Int} (i : Int) [h : EncL c_u8 R xs] : inb R i = inb xs i := by rw [h.eq, t_inb]
theorem ro_u8 {R : List (List AV)} {xs : List Int} (i : Int) [h : EncL c_u8 R xs] (hi : inb xs i = true) : rowOf R i.toNat = c_u8 (gt xs i) := by rw [h.eq, t_row xs i hi]
def c_b (x : Bool) : List AV := [.b x]
theorem e_c_b (x : Bool) : c_b x = [.b x] := _root_.id rfl
instance (x : Bool) : EncR c_b [.b x] x := ⟨rfl⟩
theorem ld_b (xs : List Bool) : lendRows (xs.map c_b) = xs.map c_b := t_lend (fun x => by simp only [e_c_b, lendRow, lendc]) xs
theorem cl_b (xs : List Bool) : cleanRows (xs.map c_b) = true := t_clean (fun x => by simp only [e_c_b, cleans, AV.clean, Bool.and_self]) xs
theorem ib_b {R : List (List AV)} {xs : List Bool} (i : Int) [h : EncL c_b R xs] : inb R i = inb xs i := by rw [h.eq, t_inb]
theorem ro_b {R : List (List AV)} {xs : List Bool} (i : Int) [h : EncL c_b R xs] (hi : inb xs i = true) : rowOf R i.toNat = c_b (gt xs i) := by rw [h.eq, t_row xs i hi]
def c_s (x : List UInt8) : List AV := [.s x]
theorem e_c_s (x : List UInt8) : c_s x = [.s x] := _root_.id rfl
instance (x : List UInt8) : EncR c_s [.s x] x := ⟨rfl⟩
theorem ld_s (xs : List (List UInt8)) : lendRows (xs.map c_s) = xs.map c_s := t_lend (fun x => by simp only [e_c_s, lendRow, lendc]) xs
theorem cl_s (xs : List (List UInt8)) : cleanRows (xs.map c_s) = true := t_clean (fun x => by simp only [e_c_s, cleans, AV.clean, Bool.and_self]) xs
theorem ib_s {R : List (List AV)} {xs : List (List UInt8)} (i : Int) [h : EncL c_s R xs] : inb R i = inb xs i := by rw [h.eq, t_inb]
theorem ro_s {R : List (List AV)} {xs : List (List UInt8)} (i : Int) [h : EncL c_s R xs] (hi : inb xs i = true) : rowOf R i.toNat = c_s (gt xs i) := by rw [h.eq, t_row xs i hi]
def cHit (x : Hit) : List AV := [.i .i64 x.House, .i .i64 x.Thing]
theorem e_cHit (x : Hit) : cHit x = [.i .i64 x.House, .i .i64 x.Thing] := _root_.id rfl
instance (yxHouse : Int) (yxThing : Int)  : EncR cHit [.i .i64 yxHouse, .i .i64 yxThing] (⟨yxHouse, yxThing⟩ : Hit) := ⟨by rfl⟩
theorem ld_Hit (xs : List Hit) : lendRows (xs.map cHit) = xs.map cHit := t_lend (fun x => by simp only [e_cHit, lendRow, lendc]) xs
theorem cl_Hit (xs : List Hit) : cleanRows (xs.map cHit) = true := t_clean (fun x => by simp only [e_cHit, cleans, AV.clean, Bool.and_self]) xs
theorem et_Hit (x : Hit) : (⟨x.House, x.Thing⟩ : Hit) = x := _root_.id rfl
def cSlot (x : Slot) : List AV := [.i .i64 x.Id, .i .i64 x.Size, .i .i64 x.Thing]
theorem e_cSlot (x : Slot) : cSlot x = [.i .i64 x.Id, .i .i64 x.Size, .i .i64 x.Thing] := _root_.id rfl
instance (yxId : Int) (yxSize : Int) (yxThing : Int)  : EncR cSlot [.i .i64 yxId, .i .i64 yxSize, .i .i64 yxThing] (⟨yxId, yxSize, yxThing⟩ : Slot) := ⟨by rfl⟩
theorem ld_Slot (xs : List Slot) : lendRows (xs.map cSlot) = xs.map cSlot := t_lend (fun x => by simp only [e_cSlot, lendRow, lendc]) xs
theorem cl_Slot (xs : List Slot) : cleanRows (xs.map cSlot) = true := t_clean (fun x => by simp only [e_cSlot, cleans, AV.clean, Bool.and_self]) xs
theorem et_Slot (x : Slot) : (⟨x.Id, x.Size, x.Thing⟩ : Slot) = x := _root_.id rfl
def cClaim (x : Claim) : List AV := [.i .i64 x.Id, .i .i64 x.Who, .i .i64 x.Thing, .i .i64 x.At, .i .i64 x.State]
theorem e_cClaim (x : Claim) : cClaim x = [.i .i64 x.Id, .i .i64 x.Who, .i .i64 x.Thing, .i .i64 x.At, .i .i64 x.State] := _root_.id rfl
instance (yxId : Int) (yxWho : Int) (yxThing : Int) (yxAt : Int) (yxState : Int)  : EncR cClaim [.i .i64 yxId, .i .i64 yxWho, .i .i64 yxThing, .i .i64 yxAt, .i .i64 yxState] (⟨yxId, yxWho, yxThing, yxAt, yxState⟩ : Claim) := ⟨by rfl⟩
theorem ld_Claim (xs : List Claim) : lendRows (xs.map cClaim) = xs.map cClaim := t_lend (fun x => by simp only [e_cClaim, lendRow, lendc]) xs
theorem cl_Claim (xs : List Claim) : cleanRows (xs.map cClaim) = true := t_clean (fun x => by simp only [e_cClaim, cleans, AV.clean, Bool.and_self]) xs
theorem et_Claim (x : Claim) : (⟨x.Id, x.Who, x.Thing, x.At, x.State⟩ : Claim) = x := _root_.id rfl
def cHand (x : Hand) : List AV := [.i .i64 x.Thing, .i .i64 x.Holder, .i .i64 x.Who, .i .i64 x.At, .i .i64 x.Seal]
theorem e_cHand (x : Hand) : cHand x = [.i .i64 x.Thing, .i .i64 x.Holder, .i .i64 x.Who, .i .i64 x.At, .i .i64 x.Seal] := _root_.id rfl
instance (yxThing : Int) (yxHolder : Int) (yxWho : Int) (yxAt : Int) (yxSeal : Int)  : EncR cHand [.i .i64 yxThing, .i .i64 yxHolder, .i .i64 yxWho, .i .i64 yxAt, .i .i64 yxSeal] (⟨yxThing, yxHolder, yxWho, yxAt, yxSeal⟩ : Hand) := ⟨by rfl⟩
theorem ld_Hand (xs : List Hand) : lendRows (xs.map cHand) = xs.map cHand := t_lend (fun x => by simp only [e_cHand, lendRow, lendc]) xs
theorem cl_Hand (xs : List Hand) : cleanRows (xs.map cHand) = true := t_clean (fun x => by simp only [e_cHand, cleans, AV.clean, Bool.and_self]) xs
theorem et_Hand (x : Hand) : (⟨x.Thing, x.Holder, x.Who, x.At, x.Seal⟩ : Hand) = x := _root_.id rfl
def cThing (x : Thing) : List AV := [.i .i64 x.Id, .i .i64 x.Kind, .i .i64 x.Colour, .i .i64 x.Size, .i .i64 x.Worth]
theorem e_cThing (x : Thing) : cThing x = [.i .i64 x.Id, .i .i64 x.Kind, .i .i64 x.Colour, .i .i64 x.Size, .i .i64 x.Worth] := _root_.id rfl
instance (yxId : Int) (yxKind : Int) (yxColour : Int) (yxSize : Int) (yxWorth : Int)  : EncR cThing [.i .i64 yxId, .i .i64 yxKind, .i .i64 yxColour, .i .i64 yxSize, .i .i64 yxWorth] (⟨yxId, yxKind, yxColour, yxSize, yxWorth⟩ : Thing) := ⟨by rfl⟩
theorem ld_Thing (xs : List Thing) : lendRows (xs.map cThing) = xs.map cThing := t_lend (fun x => by simp only [e_cThing, lendRow, lendc]) xs
theorem cl_Thing (xs : List Thing) : cleanRows (xs.map cThing) = true := t_clean (fun x => by simp only [e_cThing, cleans, AV.clean, Bool.and_self]) xs
theorem et_Thing (x : Thing) : (⟨x.Id, x.Kind, x.Colour, x.Size, x.Worth⟩ : Thing) = x := _root_.id rfl
def cFind (x : Find) : List AV := [.i .i64 x.Thing.Id, .i .i64 x.Thing.Kind, .i .i64 x.Thing.Colour, .i .i64 x.Thing.Size, .i .i64 x.Thing.Worth, .i .i64 x.Place, .i .i64 x.At, .i .i64 x.Finder]
theorem e_cFind (x : Find) : cFind x = [.i .i64 x.Thing.Id, .i .i64 x.Thing.Kind, .i .i64 x.Thing.Colour, .i .i64 x.Thing.Size, .i .i64 x.Thing.Worth, .i .i64 x.Place, .i .i64 x.At, .i .i64 x.Finder] := _root_.id rfl
instance (yxThingxId : Int) (yxThingxKind : Int) (yxThingxColour : Int) (yxThingxSize : Int) (yxThingxWorth : Int) (yxPlace : Int) (yxAt : Int) (yxFinder : Int)  : EncR cFind [.i .i64 yxThingxId, .i .i64 yxThingxKind, .i .i64 yxThingxColour, .i .i64 yxThingxSize, .i .i64 yxThingxWorth, .i .i64 yxPlace, .i .i64 yxAt, .i .i64 yxFinder] (⟨⟨yxThingxId, yxThingxKind, yxThingxColour, yxThingxSize, yxThingxWorth⟩, yxPlace, yxAt, yxFinder⟩ : Find) := ⟨by rfl⟩
theorem ld_Find (xs : List Find) : lendRows (xs.map cFind) = xs.map cFind := t_lend (fun x => by simp only [e_cFind, lendRow, lendc]) xs
theorem cl_Find (xs : List Find) : cleanRows (xs.map cFind) = true := t_clean (fun x => by simp only [e_cFind, cleans, AV.clean, Bool.and_self]) xs
theorem et_Find (x : Find) : (⟨x.Thing, x.Place, x.At, x.Finder⟩ : Find) = x := _root_.id rfl
def cMark (x : Mark) : List AV := [.i .i64 x.Question, .i .i64 x.Answer]
theorem e_cMark (x : Mark) : cMark x = [.i .i64 x.Question, .i .i64 x.Answer] := _root_.id rfl
instance (yxQuestion : Int) (yxAnswer : Int)  : EncR cMark [.i .i64 yxQuestion, .i .i64 yxAnswer] (⟨yxQuestion, yxAnswer⟩ : Mark) := ⟨by rfl⟩
theorem ld_Mark (xs : List Mark) : lendRows (xs.map cMark) = xs.map cMark := t_lend (fun x => by simp only [e_cMark, lendRow, lendc]) xs
theorem cl_Mark (xs : List Mark) : cleanRows (xs.map cMark) = true := t_clean (fun x => by simp only [e_cMark, cleans, AV.clean, Bool.and_self]) xs
theorem et_Mark (x : Mark) : (⟨x.Question, x.Answer⟩ : Mark) = x := _root_.id rfl
def cSecret (x : Secret) : List AV := [.i .i64 x.Thing, .imm 2 (x.Marks.map cMark), .i .i64 x.Salt]
theorem e_cSecret (x : Secret) : cSecret x = [.i .i64 x.Thing, .imm 2 (x.Marks.map cMark), .i .i64 x.Salt] := _root_.id rfl
instance (yxThing : Int) {R1} {yxMarks : List Mark} (yxSalt : Int) [H1 : EncL cMark R1 yxMarks] : EncR cSecret [.i .i64 yxThing, .imm 2 R1, .i .i64 yxSalt] (⟨yxThing, yxMarks, yxSalt⟩ : Secret) := ⟨by obtain ⟨rfl⟩ := H1; rfl⟩
def cSecretO (x : Secret) : List AV := [.i .i64 x.Thing, .own 2 (x.Marks.map cMark), .i .i64 x.Salt]
theorem e_cSecretO (x : Secret) : cSecretO x = [.i .i64 x.Thing, .own 2 (x.Marks.map cMark), .i .i64 x.Salt] := _root_.id rfl
instance (yxThing : Int) {R1} {yxMarks : List Mark} (yxSalt : Int) [H1 : EncL cMark R1 yxMarks] : EncR cSecretO [.i .i64 yxThing, .own 2 R1, .i .i64 yxSalt] (⟨yxThing, yxMarks, yxSalt⟩ : Secret) := ⟨by obtain ⟨rfl⟩ := H1; rfl⟩
theorem ld_Secret (xs : List Secret) : lendRows (xs.map cSecretO) = xs.map cSecret := t_lend (fun x => by simp only [e_cSecretO, e_cSecret, lendRow, lendc, ld_Mark]) xs
theorem cl_Secret (xs : List Secret) : cleanRows (xs.map cSecretO) = true := t_clean (fun x => by simp only [e_cSecretO, cleans, AV.clean, Bool.and_self, cl_Mark]) xs
theorem et_Secret (x : Secret) : (⟨x.Thing, x.Marks, x.Salt⟩ : Secret) = x := _root_.id rfl
def cTrial (x : Trial) : List AV := [.i .i64 x.Claim, .i .i64 x.Asked, .i .i64 x.Right, .i .i64 x.Wrong]
theorem e_cTrial (x : Trial) : cTrial x = [.i .i64 x.Claim, .i .i64 x.Asked, .i .i64 x.Right, .i .i64 x.Wrong] := _root_.id rfl
instance (yxClaim : Int) (yxAsked : Int) (yxRight : Int) (yxWrong : Int)  : EncR cTrial [.i .i64 yxClaim, .i .i64 yxAsked, .i .i64 yxRight, .i .i64 yxWrong] (⟨yxClaim, yxAsked, yxRight, yxWrong⟩ : Trial) := ⟨by rfl⟩
theorem ld_Trial (xs : List Trial) : lendRows (xs.map cTrial) = xs.map cTrial := t_lend (fun x => by simp only [e_cTrial, lendRow, lendc]) xs
theorem cl_Trial (xs : List Trial) : cleanRows (xs.map cTrial) = true := t_clean (fun x => by simp only [e_cTrial, cleans, AV.clean, Bool.and_self]) xs
theorem et_Trial (x : Trial) : (⟨x.Claim, x.Asked, x.Right, x.Wrong⟩ : Trial) = x := _root_.id rfl
def cEntry (x : Entry) : List AV := [.i .i64 x.From, .i .i64 x.To, .i .i64 x.Cents, .i .i64 x.At]
theorem e_cEntry (x : Entry) : cEntry x = [.i .i64 x.From, .i .i64 x.To, .i .i64 x.Cents, .i .i64 x.At] := _root_.id rfl
instance (yxFrom : Int) (yxTo : Int) (yxCents : Int) (yxAt : Int)  : EncR cEntry [.i .i64 yxFrom, .i .i64 yxTo, .i .i64 yxCents, .i .i64 yxAt] (⟨yxFrom, yxTo, yxCents, yxAt⟩ : Entry) := ⟨by rfl⟩
theorem ld_Entry (xs : List Entry) : lendRows (xs.map cEntry) = xs.map cEntry := t_lend (fun x => by simp only [e_cEntry, lendRow, lendc]) xs
theorem cl_Entry (xs : List Entry) : cleanRows (xs.map cEntry) = true := t_clean (fun x => by simp only [e_cEntry, cleans, AV.clean, Bool.and_self]) xs
theorem et_Entry (x : Entry) : (⟨x.From, x.To, x.Cents, x.At⟩ : Entry) = x := _root_.id rfl
def cHouse (x : House) : List AV := [.i .i64 x.No, .imm 8 (x.Finds.map cFind), .imm 3 (x.Secrets.map cSecret), .imm 3 (x.Slots.map cSlot), .imm 5 (x.Claims.map cClaim), .imm 4 (x.Trials.map cTrial), .imm 5 (x.Chain.map cHand), .imm 4 (x.Book.map cEntry), .i .i64 x.Now]
theorem e_cHouse (x : House) : cHouse x = [.i .i64 x.No, .imm 8 (x.Finds.map cFind), .imm 3 (x.Secrets.map cSecret), .imm 3 (x.Slots.map cSlot), .imm 5 (x.Claims.map cClaim), .imm 4 (x.Trials.map cTrial), .imm 5 (x.Chain.map cHand), .imm 4 (x.Book.map cEntry), .i .i64 x.Now] := _root_.id rfl
instance (yxNo : Int) {R1} {yxFinds : List Find} {R2} {yxSecrets : List Secret} {R3} {yxSlots : List Slot} {R4} {yxClaims : List Claim} {R5} {yxTrials : List Trial} {R6} {yxChain : List Hand} {R7} {yxBook : List Entry} (yxNow : Int) [H1 : EncL cFind R1 yxFinds] [H2 : EncL cSecret R2 yxSecrets] [H3 : EncL cSlot R3 yxSlots] [H4 : EncL cClaim R4 yxClaims] [H5 : EncL cTrial R5 yxTrials] [H6 : EncL cHand R6 yxChain] [H7 : EncL cEntry R7 yxBook] : EncR cHouse [.i .i64 yxNo, .imm 8 R1, .imm 3 R2, .imm 3 R3, .imm 5 R4, .imm 4 R5, .imm 5 R6, .imm 4 R7, .i .i64 yxNow] (⟨yxNo, yxFinds, yxSecrets, yxSlots, yxClaims, yxTrials, yxChain, yxBook, yxNow⟩ : House) := ⟨by obtain ⟨rfl⟩ := H1; obtain ⟨rfl⟩ := H2; obtain ⟨rfl⟩ := H3; obtain ⟨rfl⟩ := H4; obtain ⟨rfl⟩ := H5; obtain ⟨rfl⟩ := H6; obtain ⟨rfl⟩ := H7; rfl⟩
def cHouseO (x : House) : List AV := [.i .i64 x.No, .own 8 (x.Finds.map cFind), .own 3 (x.Secrets.map cSecretO), .own 3 (x.Slots.map cSlot), .own 5 (x.Claims.map cClaim), .own 4 (x.Trials.map cTrial), .own 5 (x.Chain.map cHand), .own 4 (x.Book.map cEntry), .i .i64 x.Now]
theorem e_cHouseO (x : House) : cHouseO x = [.i .i64 x.No, .own 8 (x.Finds.map cFind), .own 3 (x.Secrets.map cSecretO), .own 3 (x.Slots.map cSlot), .own 5 (x.Claims.map cClaim), .own 4 (x.Trials.map cTrial), .own 5 (x.Chain.map cHand), .own 4 (x.Book.map cEntry), .i .i64 x.Now] := _root_.id rfl
instance (yxNo : Int) {R1} {yxFinds : List Find} {R2} {yxSecrets : List Secret} {R3} {yxSlots : List Slot} {R4} {yxClaims : List Claim} {R5} {yxTrials : List Trial} {R6} {yxChain : List Hand} {R7} {yxBook : List Entry} (yxNow : Int) [H1 : EncL cFind R1 yxFinds] [H2 : EncL cSecretO R2 yxSecrets] [H3 : EncL cSlot R3 yxSlots] [H4 : EncL cClaim R4 yxClaims] [H5 : EncL cTrial R5 yxTrials] [H6 : EncL cHand R6 yxChain] [H7 : EncL cEntry R7 yxBook] : EncR cHouseO [.i .i64 yxNo, .own 8 R1, .own 3 R2, .own 3 R3, .own 5 R4, .own 4 R5, .own 5 R6, .own 4 R7, .i .i64 yxNow] (⟨yxNo, yxFinds, yxSecrets, yxSlots, yxClaims, yxTrials, yxChain, yxBook, yxNow⟩ : House) := ⟨by obtain ⟨rfl⟩ := H1; obtain ⟨rfl⟩ := H2; obtain ⟨rfl⟩ := H3; obtain ⟨rfl⟩ := H4; obtain ⟨rfl⟩ := H5; obtain ⟨rfl⟩ := H6; obtain ⟨rfl⟩ := H7; rfl⟩
theorem ld_House (xs : List House) : lendRows (xs.map cHouseO) = xs.map cHouse := t_lend (fun x => by simp only [e_cHouseO, e_cHouse, lendRow, lendc, ld_Claim, ld_Entry, ld_Find, ld_Hand, ld_Secret, ld_Slot, ld_Trial]) xs
theorem cl_House (xs : List House) : cleanRows (xs.map cHouseO) = true := t_clean (fun x => by simp only [e_cHouseO, cleans, AV.clean, Bool.and_self, cl_Claim, cl_Entry, cl_Find, cl_Hand, cl_Secret, cl_Slot, cl_Trial]) xs
theorem et_House (x : House) : (⟨x.No, x.Finds, x.Secrets, x.Slots, x.Claims, x.Trials, x.Chain, x.Book, x.Now⟩ : House) = x := _root_.id rfl
def encs := And.intro @e_c_i64 <| And.intro @ld_i64 <| And.intro @cl_i64 <| And.intro @ib_i64 <| And.intro @ro_i64 <| And.intro @e_c_u8 <| And.intro @ld_u8 <| And.intro @cl_u8 <| And.intro @ib_u8 <| And.intro @ro_u8 <| And.intro @e_c_b <| And.intro @ld_b <| And.intro @cl_b <| And.intro @ib_b <| And.intro @ro_b <| And.intro @e_c_s <| And.intro @ld_s <| And.intro @cl_s <| And.intro @ib_s <| And.intro @ro_s <| And.intro @e_cHit <| And.intro @ld_Hit <| And.intro @cl_Hit <| And.intro @et_Hit <| And.intro @e_cSlot <| And.intro @ld_Slot <| And.intro @cl_Slot <| And.intro @et_Slot <| And.intro @e_cClaim <| And.intro @ld_Claim <| And.intro @cl_Claim <| And.intro @et_Claim <| And.intro @e_cHand <| And.intro @ld_Hand <| And.intro @cl_Hand <| And.intro @et_Hand <| And.intro @e_cThing <| And.intro @ld_Thing <| And.intro @cl_Thing <| And.intro @et_Thing <| And.intro @e_cFind <| And.intro @ld_Find <| And.intro @cl_Find <| And.intro @et_Find <| And.intro @e_cMark <| And.intro @ld_Mark <| And.intro @cl_Mark <| And.intro @et_Mark <| And.intro @e_cSecret <| And.intro @ld_Secret <| And.intro @cl_Secret <| And.intro @et_Secret <| And.intro @e_cSecretO <| And.intro @e_cTrial <| And.intro @ld_Trial <| And.intro @cl_Trial <| And.intro @et_Trial <| And.intro @e_cEntry <| And.intro @ld_Entry <| And.intro @cl_Entry <| And.intro @et_Entry <| And.intro @e_cHouse <| And.intro @ld_House <| And.intro @cl_House <| And.intro @et_House @e_cHouseO
theorem ty0 : bsl Tryd.prog 111 = true := by kernel_rfl
theorem ty1 : bsl Tryd.prog 3 = false := by kernel_rfl
theorem ty2 : flT Tryd.prog 136 = false := by kernel_rfl
theorem ty3 : slz Tryd.prog 9 136 = [0, 2, 0] := by kernel_rfl
theorem ty4 : slzE Tryd.prog 111 = [0] := by kernel_rfl
theorem ty5 : slzE Tryd.prog 134 = [0, 0] := by kernel_rfl
theorem ty6 : slzE Tryd.prog 24 = [0] := by kernel_rfl
theorem ty7 : slzE Tryd.prog 32 = [0, 0] := by kernel_rfl
theorem ty8 : slzE Tryd.prog 39 = [0, 0, 0] := by kernel_rfl
theorem ty9 : slzE Tryd.prog 46 = [0, 0, 0, 0, 0] := by kernel_rfl
theorem ty10 : slzE Tryd.prog 53 = [0, 0, 0, 0, 0] := by kernel_rfl
theorem ty11 : slzE Tryd.prog 65 = [0, 0, 0, 0, 0, 0, 0, 0] := by kernel_rfl
theorem ty12 : slzE Tryd.prog 66 = [0, 2, 0] := by kernel_rfl
theorem ty13 : slzE Tryd.prog 67 = [0, 0, 0, 0] := by kernel_rfl
theorem ty14 : slzE Tryd.prog 68 = [0, 0, 0, 0] := by kernel_rfl
theorem ty15 : slzE Tryd.prog 75 = [0] := by kernel_rfl
theorem ty16 : tb Tryd.prog 129 = some 64 := by kernel_rfl
theorem ty17 : tb Tryd.prog 136 = some 40 := by kernel_rfl
theorem ty18 : tb Tryd.prog 139 = some 32 := by kernel_rfl
theorem ty19 : tb Tryd.prog 143 = some 32 := by kernel_rfl
theorem ty20 : tb Tryd.prog 161 = some 16 := by kernel_rfl
theorem ty21 : tb Tryd.prog 3 = some 8 := by kernel_rfl
theorem ty22 : tb Tryd.prog 78 = some 16 := by kernel_rfl
theorem ty23 : tb Tryd.prog 83 = some 24 := by kernel_rfl
theorem ty24 : tb Tryd.prog 88 = some 40 := by kernel_rfl
theorem ty25 : tb Tryd.prog 9 = some 16 := by kernel_rfl
theorem ty26 : tb Tryd.prog 94 = some 40 := by kernel_rfl
theorem ty27 : tbd Tryd.prog 112 = .arr [.s [], .s [], .s [], .s [], .s []] 1 := by kernel_rfl
theorem ty28 : tfo Tryd.prog 125 0 = some (0, .one) := by kernel_rfl
theorem ty29 : tfo Tryd.prog 125 1 = some (1, .one) := by kernel_rfl
theorem ty30 : tfo Tryd.prog 125 2 = some (2, .one) := by kernel_rfl
theorem ty31 : tfo Tryd.prog 127 0 = some (0, .one) := by kernel_rfl
theorem ty32 : tfo Tryd.prog 127 1 = some (1, .one) := by kernel_rfl
theorem ty33 : tfo Tryd.prog 127 2 = some (2, .one) := by kernel_rfl
theorem ty34 : tfo Tryd.prog 127 3 = some (3, .one) := by kernel_rfl
theorem ty35 : tfo Tryd.prog 127 4 = some (4, .one) := by kernel_rfl
theorem ty36 : tfo Tryd.prog 129 0 = some (0, .agg 5) := by kernel_rfl
theorem ty37 : tfo Tryd.prog 129 1 = some (5, .one) := by kernel_rfl
theorem ty38 : tfo Tryd.prog 129 2 = some (6, .one) := by kernel_rfl
theorem ty39 : tfo Tryd.prog 129 3 = some (7, .one) := by kernel_rfl
theorem ty40 : tfo Tryd.prog 131 0 = some (0, .one) := by kernel_rfl
theorem ty41 : tfo Tryd.prog 131 1 = some (1, .one) := by kernel_rfl
theorem ty42 : tfo Tryd.prog 131 2 = some (2, .one) := by kernel_rfl
theorem ty43 : tfo Tryd.prog 131 3 = some (3, .one) := by kernel_rfl
theorem ty44 : tfo Tryd.prog 131 4 = some (4, .one) := by kernel_rfl
theorem ty45 : tfo Tryd.prog 133 0 = some (0, .agg 5) := by kernel_rfl
theorem ty46 : tfo Tryd.prog 133 1 = some (5, .one) := by kernel_rfl
theorem ty47 : tfo Tryd.prog 133 2 = some (6, .one) := by kernel_rfl
theorem ty48 : tfo Tryd.prog 133 3 = some (7, .one) := by kernel_rfl
theorem ty49 : tfo Tryd.prog 136 0 = some (0, .one) := by kernel_rfl
theorem ty50 : tfo Tryd.prog 136 1 = some (1, .one) := by kernel_rfl
theorem ty51 : tfo Tryd.prog 136 2 = some (2, .one) := by kernel_rfl
theorem ty52 : tfo Tryd.prog 139 0 = some (0, .one) := by kernel_rfl
theorem ty53 : tfo Tryd.prog 139 1 = some (1, .one) := by kernel_rfl
theorem ty54 : tfo Tryd.prog 139 2 = some (2, .one) := by kernel_rfl
theorem ty55 : tfo Tryd.prog 139 3 = some (3, .one) := by kernel_rfl
theorem ty56 : tfo Tryd.prog 141 0 = some (0, .one) := by kernel_rfl
theorem ty57 : tfo Tryd.prog 141 1 = some (1, .one) := by kernel_rfl
theorem ty58 : tfo Tryd.prog 141 2 = some (2, .one) := by kernel_rfl
theorem ty59 : tfo Tryd.prog 141 3 = some (3, .one) := by kernel_rfl
theorem ty60 : tfo Tryd.prog 143 0 = some (0, .one) := by kernel_rfl
theorem ty61 : tfo Tryd.prog 143 1 = some (1, .one) := by kernel_rfl
theorem ty62 : tfo Tryd.prog 143 2 = some (2, .one) := by kernel_rfl
theorem ty63 : tfo Tryd.prog 143 3 = some (3, .one) := by kernel_rfl
theorem ty64 : tfo Tryd.prog 145 0 = some (0, .one) := by kernel_rfl
theorem ty65 : tfo Tryd.prog 145 1 = some (1, .one) := by kernel_rfl
theorem ty66 : tfo Tryd.prog 145 2 = some (2, .one) := by kernel_rfl
theorem ty67 : tfo Tryd.prog 145 3 = some (3, .one) := by kernel_rfl
theorem ty68 : tfo Tryd.prog 161 0 = some (0, .one) := by kernel_rfl
theorem ty69 : tfo Tryd.prog 161 1 = some (1, .one) := by kernel_rfl
theorem ty70 : tfo Tryd.prog 163 0 = some (0, .one) := by kernel_rfl
theorem ty71 : tfo Tryd.prog 163 1 = some (1, .one) := by kernel_rfl
theorem ty72 : tfo Tryd.prog 62 0 = some (0, .one) := by kernel_rfl
theorem ty73 : tfo Tryd.prog 62 1 = some (1, .one) := by kernel_rfl
theorem ty74 : tfo Tryd.prog 62 2 = some (2, .one) := by kernel_rfl
theorem ty75 : tfo Tryd.prog 62 3 = some (3, .one) := by kernel_rfl
theorem ty76 : tfo Tryd.prog 62 4 = some (4, .one) := by kernel_rfl
theorem ty77 : tfo Tryd.prog 62 5 = some (5, .one) := by kernel_rfl
theorem ty78 : tfo Tryd.prog 62 6 = some (6, .one) := by kernel_rfl
theorem ty79 : tfo Tryd.prog 62 7 = some (7, .one) := by kernel_rfl
theorem ty80 : tfo Tryd.prog 62 8 = some (8, .one) := by kernel_rfl
theorem ty81 : tfo Tryd.prog 70 0 = some (0, .one) := by kernel_rfl
theorem ty82 : tfo Tryd.prog 70 1 = some (1, .one) := by kernel_rfl
theorem ty83 : tfo Tryd.prog 70 2 = some (2, .one) := by kernel_rfl
theorem ty84 : tfo Tryd.prog 70 3 = some (3, .one) := by kernel_rfl
theorem ty85 : tfo Tryd.prog 70 4 = some (4, .one) := by kernel_rfl
theorem ty86 : tfo Tryd.prog 70 5 = some (5, .one) := by kernel_rfl
theorem ty87 : tfo Tryd.prog 70 6 = some (6, .one) := by kernel_rfl
theorem ty88 : tfo Tryd.prog 70 7 = some (7, .one) := by kernel_rfl
theorem ty89 : tfo Tryd.prog 70 8 = some (8, .one) := by kernel_rfl
theorem ty90 : tfo Tryd.prog 78 0 = some (0, .one) := by kernel_rfl
theorem ty91 : tfo Tryd.prog 78 1 = some (1, .one) := by kernel_rfl
theorem ty92 : tfo Tryd.prog 80 0 = some (0, .one) := by kernel_rfl
theorem ty93 : tfo Tryd.prog 80 1 = some (1, .one) := by kernel_rfl
theorem ty94 : tfo Tryd.prog 83 0 = some (0, .one) := by kernel_rfl
theorem ty95 : tfo Tryd.prog 83 1 = some (1, .one) := by kernel_rfl
theorem ty96 : tfo Tryd.prog 83 2 = some (2, .one) := by kernel_rfl
theorem ty97 : tfo Tryd.prog 85 0 = some (0, .one) := by kernel_rfl
theorem ty98 : tfo Tryd.prog 85 1 = some (1, .one) := by kernel_rfl
theorem ty99 : tfo Tryd.prog 85 2 = some (2, .one) := by kernel_rfl
theorem ty100 : tfo Tryd.prog 88 0 = some (0, .one) := by kernel_rfl
theorem ty101 : tfo Tryd.prog 88 1 = some (1, .one) := by kernel_rfl
theorem ty102 : tfo Tryd.prog 88 2 = some (2, .one) := by kernel_rfl
theorem ty103 : tfo Tryd.prog 88 3 = some (3, .one) := by kernel_rfl
theorem ty104 : tfo Tryd.prog 88 4 = some (4, .one) := by kernel_rfl
theorem ty105 : tfo Tryd.prog 90 0 = some (0, .one) := by kernel_rfl
theorem ty106 : tfo Tryd.prog 90 1 = some (1, .one) := by kernel_rfl
theorem ty107 : tfo Tryd.prog 90 2 = some (2, .one) := by kernel_rfl
theorem ty108 : tfo Tryd.prog 90 3 = some (3, .one) := by kernel_rfl
theorem ty109 : tfo Tryd.prog 90 4 = some (4, .one) := by kernel_rfl
theorem ty110 : tfo Tryd.prog 94 0 = some (0, .one) := by kernel_rfl
theorem ty111 : tfo Tryd.prog 94 1 = some (1, .one) := by kernel_rfl
theorem ty112 : tfo Tryd.prog 94 2 = some (2, .one) := by kernel_rfl
theorem ty113 : tfo Tryd.prog 94 3 = some (3, .one) := by kernel_rfl
theorem ty114 : tfo Tryd.prog 94 4 = some (4, .one) := by kernel_rfl
theorem ty115 : tfo Tryd.prog 96 0 = some (0, .one) := by kernel_rfl
theorem ty116 : tfo Tryd.prog 96 1 = some (1, .one) := by kernel_rfl
theorem ty117 : tfo Tryd.prog 96 2 = some (2, .one) := by kernel_rfl
theorem ty118 : tfo Tryd.prog 96 3 = some (3, .one) := by kernel_rfl
theorem ty119 : tfo Tryd.prog 96 4 = some (4, .one) := by kernel_rfl
theorem ty120 : ti Tryd.prog 112 = .arr 5 9 1 := by kernel_rfl
theorem ty121 : ti Tryd.prog 123 = .sl 163 2 := by kernel_rfl
theorem ty122 : ti Tryd.prog 134 = .sl 161 2 := by kernel_rfl
theorem ty123 : ti Tryd.prog 24 = .sl 3 1 := by kernel_rfl
theorem ty124 : ti Tryd.prog 29 = .sl 80 2 := by kernel_rfl
theorem ty125 : ti Tryd.prog 32 = .sl 78 2 := by kernel_rfl
theorem ty126 : ti Tryd.prog 36 = .sl 85 3 := by kernel_rfl
theorem ty127 : ti Tryd.prog 39 = .sl 83 3 := by kernel_rfl
theorem ty128 : ti Tryd.prog 43 = .sl 90 5 := by kernel_rfl
theorem ty129 : ti Tryd.prog 46 = .sl 88 5 := by kernel_rfl
theorem ty130 : ti Tryd.prog 5 = .int .u8 := by kernel_rfl
theorem ty131 : ti Tryd.prog 50 = .sl 96 5 := by kernel_rfl
theorem ty132 : ti Tryd.prog 53 = .sl 94 5 := by kernel_rfl
theorem ty133 : ti Tryd.prog 57 = .sl 133 8 := by kernel_rfl
theorem ty134 : ti Tryd.prog 58 = .sl 125 3 := by kernel_rfl
theorem ty135 : ti Tryd.prog 59 = .sl 141 4 := by kernel_rfl
theorem ty136 : ti Tryd.prog 60 = .sl 145 4 := by kernel_rfl
theorem ty137 : ti Tryd.prog 65 = .sl 129 8 := by kernel_rfl
theorem ty138 : ti Tryd.prog 66 = .sl 136 3 := by kernel_rfl
theorem ty139 : ti Tryd.prog 67 = .sl 139 4 := by kernel_rfl
theorem ty140 : ti Tryd.prog 68 = .sl 143 4 := by kernel_rfl
theorem ty141 : ti Tryd.prog 75 = .sl 9 1 := by kernel_rfl
theorem ty142 : ti Tryd.prog 9 = .str := by kernel_rfl
theorem ty143 : tk Tryd.prog 112 = .agg 5 := by kernel_rfl
theorem ty144 : tk Tryd.prog 123 = .one := by kernel_rfl
theorem ty145 : tk Tryd.prog 125 = .agg 3 := by kernel_rfl
theorem ty146 : tk Tryd.prog 127 = .agg 5 := by kernel_rfl
theorem ty147 : tk Tryd.prog 129 = .agg 8 := by kernel_rfl
theorem ty148 : tk Tryd.prog 131 = .agg 5 := by kernel_rfl
theorem ty149 : tk Tryd.prog 133 = .agg 8 := by kernel_rfl
theorem ty150 : tk Tryd.prog 134 = .one := by kernel_rfl
theorem ty151 : tk Tryd.prog 136 = .agg 3 := by kernel_rfl
theorem ty152 : tk Tryd.prog 139 = .agg 4 := by kernel_rfl
theorem ty153 : tk Tryd.prog 141 = .agg 4 := by kernel_rfl
theorem ty154 : tk Tryd.prog 143 = .agg 4 := by kernel_rfl
theorem ty155 : tk Tryd.prog 145 = .agg 4 := by kernel_rfl
theorem ty156 : tk Tryd.prog 161 = .agg 2 := by kernel_rfl
theorem ty157 : tk Tryd.prog 163 = .agg 2 := by kernel_rfl
theorem ty158 : tk Tryd.prog 3 = .one := by kernel_rfl
theorem ty159 : tk Tryd.prog 36 = .one := by kernel_rfl
theorem ty160 : tk Tryd.prog 39 = .one := by kernel_rfl
theorem ty161 : tk Tryd.prog 43 = .one := by kernel_rfl
theorem ty162 : tk Tryd.prog 46 = .one := by kernel_rfl
theorem ty163 : tk Tryd.prog 50 = .one := by kernel_rfl
theorem ty164 : tk Tryd.prog 53 = .one := by kernel_rfl
theorem ty165 : tk Tryd.prog 57 = .one := by kernel_rfl
theorem ty166 : tk Tryd.prog 58 = .one := by kernel_rfl
theorem ty167 : tk Tryd.prog 59 = .one := by kernel_rfl
theorem ty168 : tk Tryd.prog 60 = .one := by kernel_rfl
theorem ty169 : tk Tryd.prog 62 = .agg 9 := by kernel_rfl
theorem ty170 : tk Tryd.prog 65 = .one := by kernel_rfl
theorem ty171 : tk Tryd.prog 66 = .one := by kernel_rfl
theorem ty172 : tk Tryd.prog 67 = .one := by kernel_rfl
theorem ty173 : tk Tryd.prog 68 = .one := by kernel_rfl
theorem ty174 : tk Tryd.prog 70 = .agg 9 := by kernel_rfl
theorem ty175 : tk Tryd.prog 78 = .agg 2 := by kernel_rfl
theorem ty176 : tk Tryd.prog 80 = .agg 2 := by kernel_rfl
theorem ty177 : tk Tryd.prog 83 = .agg 3 := by kernel_rfl
theorem ty178 : tk Tryd.prog 85 = .agg 3 := by kernel_rfl
theorem ty179 : tk Tryd.prog 88 = .agg 5 := by kernel_rfl
theorem ty180 : tk Tryd.prog 9 = .one := by kernel_rfl
theorem ty181 : tk Tryd.prog 90 = .agg 5 := by kernel_rfl
theorem ty182 : tk Tryd.prog 94 = .agg 5 := by kernel_rfl
theorem ty183 : tk Tryd.prog 96 = .agg 5 := by kernel_rfl
theorem ty184 : tnoint Tryd.prog 53 = true := by kernel_rfl
theorem ty185 : tnoint Tryd.prog 75 = true := by kernel_rfl
theorem ty186 : tok Tryd.prog 3 = true := by kernel_rfl
theorem ty187 : tse Tryd.prog 111 = some (5, 1, [.i .u8 0]) := by kernel_rfl
theorem ty188 : tse Tryd.prog 134 = some (161, 2, [.i .i64 0, .i .i64 0]) := by kernel_rfl
theorem ty189 : tse Tryd.prog 24 = some (3, 1, [.i .i64 0]) := by kernel_rfl
theorem ty190 : tse Tryd.prog 32 = some (78, 2, [.i .i64 0, .i .i64 0]) := by kernel_rfl
theorem ty191 : tse Tryd.prog 39 = some (83, 3, [.i .i64 0, .i .i64 0, .i .i64 0]) := by kernel_rfl
theorem ty192 : tse Tryd.prog 46 = some (88, 5, [.i .i64 0, .i .i64 0, .i .i64 0, .i .i64 0, .i .i64 0]) := by kernel_rfl
theorem ty193 : tse Tryd.prog 53 = some (94, 5, [.i .i64 0, .i .i64 0, .i .i64 0, .i .i64 0, .i .i64 0]) := by kernel_rfl
theorem ty194 : tse Tryd.prog 65 = some (129, 8, [.i .i64 0, .i .i64 0, .i .i64 0, .i .i64 0, .i .i64 0, .i .i64 0, .i .i64 0, .i .i64 0]) := by kernel_rfl
theorem ty195 : tse Tryd.prog 66 = some (136, 3, [.i .i64 0, .nil, .i .i64 0]) := by kernel_rfl
theorem ty196 : tse Tryd.prog 67 = some (139, 4, [.i .i64 0, .i .i64 0, .i .i64 0, .i .i64 0]) := by kernel_rfl
theorem ty197 : tse Tryd.prog 68 = some (143, 4, [.i .i64 0, .i .i64 0, .i .i64 0, .i .i64 0]) := by kernel_rfl
theorem ty198 : tse Tryd.prog 75 = some (9, 1, [.s []]) := by kernel_rfl
theorem ty199 : tzc Tryd.prog 112 = some [.s [], .s [], .s [], .s [], .s []] := by kernel_rfl
theorem ty200 : tzc Tryd.prog 127 = some [.i .i64 0, .i .i64 0, .i .i64 0, .i .i64 0, .i .i64 0] := by kernel_rfl
theorem ty201 : tzc Tryd.prog 129 = some [.i .i64 0, .i .i64 0, .i .i64 0, .i .i64 0, .i .i64 0, .i .i64 0, .i .i64 0, .i .i64 0] := by kernel_rfl
theorem ty202 : tzc Tryd.prog 136 = some [.i .i64 0, .nil, .i .i64 0] := by kernel_rfl
theorem ty203 : tzc Tryd.prog 139 = some [.i .i64 0, .i .i64 0, .i .i64 0, .i .i64 0] := by kernel_rfl
theorem ty204 : tzc Tryd.prog 143 = some [.i .i64 0, .i .i64 0, .i .i64 0, .i .i64 0] := by kernel_rfl
theorem ty205 : tzc Tryd.prog 161 = some [.i .i64 0, .i .i64 0] := by kernel_rfl
theorem ty206 : tzc Tryd.prog 70 = some [.i .i64 0, .nil, .nil, .nil, .nil, .nil, .nil, .nil, .i .i64 0] := by kernel_rfl
theorem ty207 : tzc Tryd.prog 78 = some [.i .i64 0, .i .i64 0] := by kernel_rfl
theorem ty208 : tzc Tryd.prog 83 = some [.i .i64 0, .i .i64 0, .i .i64 0] := by kernel_rfl
theorem ty209 : tzc Tryd.prog 88 = some [.i .i64 0, .i .i64 0, .i .i64 0, .i .i64 0, .i .i64 0] := by kernel_rfl
theorem ty210 : tzc Tryd.prog 94 = some [.i .i64 0, .i .i64 0, .i .i64 0, .i .i64 0, .i .i64 0] := by kernel_rfl
def tys := And.intro @ty0 <| And.intro @ty1 <| And.intro @ty2 <| And.intro @ty3 <| And.intro @ty4 <| And.intro @ty5 <| And.intro @ty6 <| And.intro @ty7 <| And.intro @ty8 <| And.intro @ty9 <| And.intro @ty10 <| And.intro @ty11 <| And.intro @ty12 <| And.intro @ty13 <| And.intro @ty14 <| And.intro @ty15 <| And.intro @ty16 <| And.intro @ty17 <| And.intro @ty18 <| And.intro @ty19 <| And.intro @ty20 <| And.intro @ty21 <| And.intro @ty22 <| And.intro @ty23 <| And.intro @ty24 <| And.intro @ty25 <| And.intro @ty26 <| And.intro @ty27 <| And.intro @ty28 <| And.intro @ty29 <| And.intro @ty30 <| And.intro @ty31 <| And.intro @ty32 <| And.intro @ty33 <| And.intro @ty34 <| And.intro @ty35 <| And.intro @ty36 <| And.intro @ty37 <| And.intro @ty38 <| And.intro @ty39 <| And.intro @ty40 <| And.intro @ty41 <| And.intro @ty42 <| And.intro @ty43 <| And.intro @ty44 <| And.intro @ty45 <| And.intro @ty46 <| And.intro @ty47 <| And.intro @ty48 <| And.intro @ty49 <| And.intro @ty50 <| And.intro @ty51 <| And.intro @ty52 <| And.intro @ty53 <| And.intro @ty54 <| And.intro @ty55 <| And.intro @ty56 <| And.intro @ty57 <| And.intro @ty58 <| And.intro @ty59 <| And.intro @ty60 <| And.intro @ty61 <| And.intro @ty62 <| And.intro @ty63 <| And.intro @ty64 <| And.intro @ty65 <| And.intro @ty66 <| And.intro @ty67 <| And.intro @ty68 <| And.intro @ty69 <| And.intro @ty70 <| And.intro @ty71 <| And.intro @ty72 <| And.intro @ty73 <| And.intro @ty74 <| And.intro @ty75 <| And.intro @ty76 <| And.intro @ty77 <| And.intro @ty78 <| And.intro @ty79 <| And.intro @ty80 <| And.intro @ty81 <| And.intro @ty82 <| And.intro @ty83 <| And.intro @ty84 <| And.intro @ty85 <| And.intro @ty86 <| And.intro @ty87 <| And.intro @ty88 <| And.intro @ty89 <| And.intro @ty90 <| And.intro @ty91 <| And.intro @ty92 <| And.intro @ty93 <| And.intro @ty94 <| And.intro @ty95 <| And.intro @ty96 <| And.intro @ty97 <| And.intro @ty98 <| And.intro @ty99 <| And.intro @ty100 <| And.intro @ty101 <| And.intro @ty102 <| And.intro @ty103 <| And.intro @ty104 <| And.intro @ty105 <| And.intro @ty106 <| And.intro @ty107 <| And.intro @ty108 <| And.intro @ty109 <| And.intro @ty110 <| And.intro @ty111 <| And.intro @ty112 <| And.intro @ty113 <| And.intro @ty114 <| And.intro @ty115 <| And.intro @ty116 <| And.intro @ty117 <| And.intro @ty118 <| And.intro @ty119 <| And.intro @ty120 <| And.intro @ty121 <| And.intro @ty122 <| And.intro @ty123 <| And.intro @ty124 <| And.intro @ty125 <| And.intro @ty126 <| And.intro @ty127 <| And.intro @ty128 <| And.intro @ty129 <| And.intro @ty130 <| And.intro @ty131 <| And.intro @ty132 <| And.intro @ty133 <| And.intro @ty134 <| And.intro @ty135 <| And.intro @ty136 <| And.intro @ty137 <| And.intro @ty138 <| And.intro @ty139 <| And.intro @ty140 <| And.intro @ty141 <| And.intro @ty142 <| And.intro @ty143 <| And.intro @ty144 <| And.intro @ty145 <| And.intro @ty146 <| And.intro @ty147 <| And.intro @ty148 <| And.intro @ty149 <| And.intro @ty150 <| And.intro @ty151 <| And.intro @ty152 <| And.intro @ty153 <| And.intro @ty154 <| And.intro @ty155 <| And.intro @ty156 <| And.intro @ty157 <| And.intro @ty158 <| And.intro @ty159 <| And.intro @ty160 <| And.intro @ty161 <| And.intro @ty162 <| And.intro @ty163 <| And.intro @ty164 <| And.intro @ty165 <| And.intro @ty166 <| And.intro @ty167 <| And.intro @ty168 <| And.intro @ty169 <| And.intro @ty170 <| And.intro @ty171 <| And.intro @ty172 <| And.intro @ty173 <| And.intro @ty174 <| And.intro @ty175 <| And.intro @ty176 <| And.intro @ty177 <| And.intro @ty178 <| And.intro @ty179 <| And.intro @ty180 <| And.intro @ty181 <| And.intro @ty182 <| And.intro @ty183 <| And.intro @ty184 <| And.intro @ty185 <| And.intro @ty186 <| And.intro @ty187 <| And.intro @ty188 <| And.intro @ty189 <| And.intro @ty190 <| And.intro @ty191 <| And.intro @ty192 <| And.intro @ty193 <| And.intro @ty194 <| And.intro @ty195 <| And.intro @ty196 <| And.intro @ty197 <| And.intro @ty198 <| And.intro @ty199 <| And.intro @ty200 <| And.intro @ty201 <| And.intro @ty202 <| And.intro @ty203 <| And.intro @ty204 <| And.intro @ty205 <| And.intro @ty206 <| And.intro @ty207 <| And.intro @ty208 <| And.intro @ty209 @ty210
def strsOf : List (List AV) → Option (List (List UInt8))
  | [] => some []
  | [.s x] :: r => (strsOf r).map (x :: ·)
  | _ => none
theorem strsOf_map : ∀ l : List (List UInt8), strsOf (l.map c_s) = some l
  | [] => rfl
  | x :: l => by rw [List.map_cons, e_c_s, strsOf, strsOf_map l]; rfl
def xt (g : Nat) (args : List AV) : Option AV := match args with
  | [.imm 1 R, .s s] => if g = 58 then (strsOf R).bind fun l => (strings_Join l s).map .s else none
  | [.i .i64 x] => if g = 72 then (strconv_Itoa x).map .s else none
  | _ => none
noncomputable def T : Tld := ⟨Tryd.prog, [(3, {}), (4, {}), (5, {}), (6, {}), (7, {}), (8, {}), (9, {}), (10, {}), (11, {}), (12, { lp := [(3, ⟨[0, 3, 4], [.s 3 1], [3], [.s 3 1]⟩)] }), (13, { lp := [(3, ⟨[0, 3, 4], [.s 3 1], [3], [.s 3 1]⟩)], sh := [.z 1] }), (14, { lp := [(3, ⟨[3, 7, 8, 9], [.s 3 1], [3], [.s 3 1]⟩)] }), (15, { lp := [(4, ⟨[0, 1, 5], [], [], []⟩)], rt := ⟨[4], [], [], []⟩ }), (16, {}), (17, { ord := [(5, [0, 1, 2, 3, 4, 5, 8, 9, 10, 11, 12, 6, 7, 13, 14, 15, 16, 17])], lp := [(3, ⟨[0, 3, 4], [.s 3 1], [3], [.s 3 1]⟩)] }), (18, { lp := [(3, ⟨[0, 3, 4], [.s 3 2], [3], [.s 3 2]⟩)], sh := [.z 2] }), (19, { ord := [(5, [0, 1, 2, 5, 6, 3, 4, 7, 8, 9, 10, 11])], lp := [(3, ⟨[3, 7, 8, 9], [.s 3 1], [3], [.s 3 1]⟩)] }), (20, { lp := [(4, ⟨[0, 1, 5], [], [], []⟩)], rt := ⟨[4], [], [], []⟩ }), (21, {}), (22, { lp := [(3, ⟨[0, 3, 4], [.s 3 1], [3], [.s 3 1]⟩)] }), (23, { lp := [(3, ⟨[0, 3, 4], [.s 3 3], [3], [.s 3 3]⟩)], sh := [.z 3] }), (24, { lp := [(3, ⟨[3, 8, 9, 10], [.s 3 1], [3], [.s 3 1]⟩)] }), (25, { lp := [(4, ⟨[0, 1, 5], [], [], []⟩)], rt := ⟨[4], [], [], []⟩ }), (26, {}), (27, { ord := [(8, [0, 1, 2, 3, 4, 5, 8, 9, 10, 11, 12, 16, 17, 18, 19, 20, 23, 6, 7, 13, 14, 15, 21, 22, 24, 25, 26, 27])], lp := [(3, ⟨[0, 3, 4], [.s 3 1], [3], [.s 3 1]⟩)] }), (28, { lp := [(3, ⟨[0, 3, 4], [.s 3 5], [3], [.s 3 5]⟩)], sh := [.z 5] }), (29, { ord := [(8, [0, 1, 2, 5, 6, 10, 11, 14, 3, 4, 7, 8, 9, 12, 13, 15, 16, 17, 18])], lp := [(3, ⟨[3, 8, 9, 10], [.s 3 1], [3], [.s 3 1]⟩)] }), (30, { lp := [(4, ⟨[0, 1, 5], [], [], []⟩)], rt := ⟨[4], [], [], []⟩ }), (31, {}), (32, { ord := [(8, [0, 1, 2, 3, 4, 5, 8, 9, 10, 11, 12, 16, 17, 18, 19, 20, 6, 7, 13, 14, 15, 21, 22, 23])], lp := [(4, ⟨[5, 6, 7], [.s 6 5], [5, 6], [.s 6 5]⟩)] }), (33, { lp := [(3, ⟨[0, 3, 4], [.s 3 5], [3], [.s 3 5]⟩)], sh := [.z 5] }), (34, { ord := [(5, [0, 1, 2, 4, 5, 9, 10, 3, 6, 7, 8, 11, 12, 13, 14, 15])], lp := [(3, ⟨[5, 11, 12, 13], [.s 5 1, .s 11 5], [5], [.s 5 1]⟩)] }), (35, { lp := [(4, ⟨[0, 1, 5], [], [], []⟩)], rt := ⟨[4], [], [], []⟩ }), (36, {}), (37, {}), (38, { sh := [.a [0, 8, 3, 3, 5, 4, 5, 4, 0]] }), (39, {}), (40, {}), (41, { jn := [(1, (6, 7, 15))] }), (42, { lp := [(5, ⟨[0, 3, 4], [], [0, 3], []⟩)] }), (43, { jn := [(1, (6, 7, 15))] }), (44, {}), (45, { lp := [(3, ⟨[0, 3, 4], [], [0, 3], []⟩)] }), (46, {}), (47, {}), (48, {}), (49, {}), (50, {}), (51, {}), (52, {}), (53, { lp := [(3, ⟨[0, 1, 5, 6], [.s 5 5], [5], [.s 5 5]⟩)], sh := [.z 5] }), (54, {}), (55, {}), (56, { lp := [(3, ⟨[1, 5, 9, 10, 11], [.s 5 5], [5], [.s 5 5]⟩)], sh := [.z 5] }), (57, {}), (59, {}), (60, {}), (61, { lp := [(5, ⟨[0, 1, 5], [], [1], []⟩)], rt := ⟨[4], [], [], []⟩ }), (62, {}), (63, {}), (64, { lp := [(3, ⟨[0, 3, 4], [.s 3 8], [3], [.s 3 8]⟩)], sh := [.z 8] }), (65, { lp := [(3, ⟨[0, 3, 4], [.s 3 3], [3], [.s 3 3]⟩)], sh := [.z 3] }), (66, { lp := [(3, ⟨[0, 3, 4], [.s 3 4], [3], [.s 3 4]⟩)], sh := [.z 4] }), (67, { lp := [(3, ⟨[0, 3, 4], [.s 3 4], [3], [.s 3 4]⟩)], sh := [.z 4] }), (68, { lp := [(4, ⟨[0, 1, 5], [], [], []⟩)], rt := ⟨[4], [], [], []⟩ }), (69, { lp := [(4, ⟨[0, 1, 5], [], [], []⟩)], rt := ⟨[4], [], [], []⟩ }), (70, { lp := [(4, ⟨[0, 1, 5], [], [], []⟩)], rt := ⟨[4], [], [], []⟩ }), (71, { lp := [(4, ⟨[0, 1, 5], [], [], []⟩)], rt := ⟨[4], [], [], []⟩ }), (76, {}), (77, {}), (78, { sh := [.a [0, 2, 0]] }), (79, {}), (80, {}), (81, {}), (82, {}), (83, {}), (84, {}), (88, {}), (89, {}), (90, { lp := [(3, ⟨[0, 3, 4], [.s 3 2], [3], [.s 3 2]⟩)], sh := [.z 2] }), (91, {}), (92, { lp := [(4, ⟨[0, 1, 5], [], [], []⟩)], rt := ⟨[4], [], [], []⟩ }), (96, {}), (97, {})], xt, fun _ => false⟩
theorem TP : T.P = Tryd.prog := _root_.id rfl
theorem e_strings_Join (n : Nat) {R} {l : List (List UInt8)} (s : List UInt8) [H1 : EncL c_s R l] : CP T (n + 1) 58 [.imm 1 R, .s s] = (strings_Join l s).map fun r => .s r := by
  obtain ⟨rfl⟩ := H1
  rw [CP_x T n 58 _ (by kernel_rfl)]
  show (strsOf (l.map c_s)).bind _ = _
  rw [strsOf_map]; rfl
theorem e_strconv_Itoa (n : Nat) (x : Int) : CP T (n + 1) 72 [.i .i64 x] = (strconv_Itoa x).map fun r => .s r := by rw [CP_x T n 72 _ (by kernel_rfl)]; rfl
theorem a3 : T.at 3 = some {} := by kernel_rfl
theorem a4 : T.at 4 = some {} := by kernel_rfl
theorem a5 : T.at 5 = some {} := by kernel_rfl
theorem a6 : T.at 6 = some {} := by kernel_rfl
theorem a7 : T.at 7 = some {} := by kernel_rfl
theorem a8 : T.at 8 = some {} := by kernel_rfl
theorem a9 : T.at 9 = some {} := by kernel_rfl
theorem a10 : T.at 10 = some {} := by kernel_rfl
theorem a11 : T.at 11 = some {} := by kernel_rfl
theorem a12 : T.at 12 = some { lp := [(3, ⟨[0, 3, 4], [.s 3 1], [3], [.s 3 1]⟩)] } := by kernel_rfl
theorem a13 : T.at 13 = some { lp := [(3, ⟨[0, 3, 4], [.s 3 1], [3], [.s 3 1]⟩)], sh := [.z 1] } := by kernel_rfl
theorem a14 : T.at 14 = some { lp := [(3, ⟨[3, 7, 8, 9], [.s 3 1], [3], [.s 3 1]⟩)] } := by kernel_rfl
theorem a15 : T.at 15 = some { lp := [(4, ⟨[0, 1, 5], [], [], []⟩)], rt := ⟨[4], [], [], []⟩ } := by kernel_rfl
theorem a16 : T.at 16 = some {} := by kernel_rfl
theorem a17 : T.at 17 = some { ord := [(5, [0, 1, 2, 3, 4, 5, 8, 9, 10, 11, 12, 6, 7, 13, 14, 15, 16, 17])], lp := [(3, ⟨[0, 3, 4], [.s 3 1], [3], [.s 3 1]⟩)] } := by kernel_rfl
theorem a18 : T.at 18 = some { lp := [(3, ⟨[0, 3, 4], [.s 3 2], [3], [.s 3 2]⟩)], sh := [.z 2] } := by kernel_rfl
theorem a19 : T.at 19 = some { ord := [(5, [0, 1, 2, 5, 6, 3, 4, 7, 8, 9, 10, 11])], lp := [(3, ⟨[3, 7, 8, 9], [.s 3 1], [3], [.s 3 1]⟩)] } := by kernel_rfl
theorem a20 : T.at 20 = some { lp := [(4, ⟨[0, 1, 5], [], [], []⟩)], rt := ⟨[4], [], [], []⟩ } := by kernel_rfl
theorem a21 : T.at 21 = some {} := by kernel_rfl
theorem a22 : T.at 22 = some { lp := [(3, ⟨[0, 3, 4], [.s 3 1], [3], [.s 3 1]⟩)] } := by kernel_rfl
theorem a23 : T.at 23 = some { lp := [(3, ⟨[0, 3, 4], [.s 3 3], [3], [.s 3 3]⟩)], sh := [.z 3] } := by kernel_rfl
theorem a24 : T.at 24 = some { lp := [(3, ⟨[3, 8, 9, 10], [.s 3 1], [3], [.s 3 1]⟩)] } := by kernel_rfl
theorem a25 : T.at 25 = some { lp := [(4, ⟨[0, 1, 5], [], [], []⟩)], rt := ⟨[4], [], [], []⟩ } := by kernel_rfl
theorem a26 : T.at 26 = some {} := by kernel_rfl
theorem a27 : T.at 27 = some { ord := [(8, [0, 1, 2, 3, 4, 5, 8, 9, 10, 11, 12, 16, 17, 18, 19, 20, 23, 6, 7, 13, 14, 15, 21, 22, 24, 25, 26, 27])], lp := [(3, ⟨[0, 3, 4], [.s 3 1], [3], [.s 3 1]⟩)] } := by kernel_rfl
theorem a28 : T.at 28 = some { lp := [(3, ⟨[0, 3, 4], [.s 3 5], [3], [.s 3 5]⟩)], sh := [.z 5] } := by kernel_rfl
theorem a29 : T.at 29 = some { ord := [(8, [0, 1, 2, 5, 6, 10, 11, 14, 3, 4, 7, 8, 9, 12, 13, 15, 16, 17, 18])], lp := [(3, ⟨[3, 8, 9, 10], [.s 3 1], [3], [.s 3 1]⟩)] } := by kernel_rfl
theorem a30 : T.at 30 = some { lp := [(4, ⟨[0, 1, 5], [], [], []⟩)], rt := ⟨[4], [], [], []⟩ } := by kernel_rfl
theorem a31 : T.at 31 = some {} := by kernel_rfl
theorem a32 : T.at 32 = some { ord := [(8, [0, 1, 2, 3, 4, 5, 8, 9, 10, 11, 12, 16, 17, 18, 19, 20, 6, 7, 13, 14, 15, 21, 22, 23])], lp := [(4, ⟨[5, 6, 7], [.s 6 5], [5, 6], [.s 6 5]⟩)] } := by kernel_rfl
theorem a33 : T.at 33 = some { lp := [(3, ⟨[0, 3, 4], [.s 3 5], [3], [.s 3 5]⟩)], sh := [.z 5] } := by kernel_rfl
theorem a34 : T.at 34 = some { ord := [(5, [0, 1, 2, 4, 5, 9, 10, 3, 6, 7, 8, 11, 12, 13, 14, 15])], lp := [(3, ⟨[5, 11, 12, 13], [.s 5 1, .s 11 5], [5], [.s 5 1]⟩)] } := by kernel_rfl
theorem a35 : T.at 35 = some { lp := [(4, ⟨[0, 1, 5], [], [], []⟩)], rt := ⟨[4], [], [], []⟩ } := by kernel_rfl
theorem a36 : T.at 36 = some {} := by kernel_rfl
theorem a37 : T.at 37 = some {} := by kernel_rfl
theorem a38 : T.at 38 = some { sh := [.a [0, 8, 3, 3, 5, 4, 5, 4, 0]] } := by kernel_rfl
theorem a39 : T.at 39 = some {} := by kernel_rfl
theorem a40 : T.at 40 = some {} := by kernel_rfl
theorem a41 : T.at 41 = some { jn := [(1, (6, 7, 15))] } := by kernel_rfl
theorem a42 : T.at 42 = some { lp := [(5, ⟨[0, 3, 4], [], [0, 3], []⟩)] } := by kernel_rfl
theorem a43 : T.at 43 = some { jn := [(1, (6, 7, 15))] } := by kernel_rfl
theorem a44 : T.at 44 = some {} := by kernel_rfl
theorem a45 : T.at 45 = some { lp := [(3, ⟨[0, 3, 4], [], [0, 3], []⟩)] } := by kernel_rfl
theorem a46 : T.at 46 = some {} := by kernel_rfl
theorem a47 : T.at 47 = some {} := by kernel_rfl
theorem a48 : T.at 48 = some {} := by kernel_rfl
theorem a49 : T.at 49 = some {} := by kernel_rfl
theorem a50 : T.at 50 = some {} := by kernel_rfl
theorem a51 : T.at 51 = some {} := by kernel_rfl
theorem a52 : T.at 52 = some {} := by kernel_rfl
theorem a53 : T.at 53 = some { lp := [(3, ⟨[0, 1, 5, 6], [.s 5 5], [5], [.s 5 5]⟩)], sh := [.z 5] } := by kernel_rfl
theorem a54 : T.at 54 = some {} := by kernel_rfl
theorem a55 : T.at 55 = some {} := by kernel_rfl
theorem a56 : T.at 56 = some { lp := [(3, ⟨[1, 5, 9, 10, 11], [.s 5 5], [5], [.s 5 5]⟩)], sh := [.z 5] } := by kernel_rfl
theorem a57 : T.at 57 = some {} := by kernel_rfl
theorem a59 : T.at 59 = some {} := by kernel_rfl
theorem a60 : T.at 60 = some {} := by kernel_rfl
theorem a61 : T.at 61 = some { lp := [(5, ⟨[0, 1, 5], [], [1], []⟩)], rt := ⟨[4], [], [], []⟩ } := by kernel_rfl
theorem a62 : T.at 62 = some {} := by kernel_rfl
theorem a63 : T.at 63 = some {} := by kernel_rfl
theorem a64 : T.at 64 = some { lp := [(3, ⟨[0, 3, 4], [.s 3 8], [3], [.s 3 8]⟩)], sh := [.z 8] } := by kernel_rfl
theorem a65 : T.at 65 = some { lp := [(3, ⟨[0, 3, 4], [.s 3 3], [3], [.s 3 3]⟩)], sh := [.z 3] } := by kernel_rfl
theorem a66 : T.at 66 = some { lp := [(3, ⟨[0, 3, 4], [.s 3 4], [3], [.s 3 4]⟩)], sh := [.z 4] } := by kernel_rfl
theorem a67 : T.at 67 = some { lp := [(3, ⟨[0, 3, 4], [.s 3 4], [3], [.s 3 4]⟩)], sh := [.z 4] } := by kernel_rfl
theorem a68 : T.at 68 = some { lp := [(4, ⟨[0, 1, 5], [], [], []⟩)], rt := ⟨[4], [], [], []⟩ } := by kernel_rfl
theorem a69 : T.at 69 = some { lp := [(4, ⟨[0, 1, 5], [], [], []⟩)], rt := ⟨[4], [], [], []⟩ } := by kernel_rfl
theorem a70 : T.at 70 = some { lp := [(4, ⟨[0, 1, 5], [], [], []⟩)], rt := ⟨[4], [], [], []⟩ } := by kernel_rfl
theorem a71 : T.at 71 = some { lp := [(4, ⟨[0, 1, 5], [], [], []⟩)], rt := ⟨[4], [], [], []⟩ } := by kernel_rfl
theorem a76 : T.at 76 = some {} := by kernel_rfl
theorem a77 : T.at 77 = some {} := by kernel_rfl
theorem a78 : T.at 78 = some { sh := [.a [0, 2, 0]] } := by kernel_rfl
theorem a79 : T.at 79 = some {} := by kernel_rfl
theorem a80 : T.at 80 = some {} := by kernel_rfl
theorem a81 : T.at 81 = some {} := by kernel_rfl
theorem a82 : T.at 82 = some {} := by kernel_rfl
theorem a83 : T.at 83 = some {} := by kernel_rfl
theorem a84 : T.at 84 = some {} := by kernel_rfl
theorem a88 : T.at 88 = some {} := by kernel_rfl
theorem a89 : T.at 89 = some {} := by kernel_rfl
theorem a90 : T.at 90 = some { lp := [(3, ⟨[0, 3, 4], [.s 3 2], [3], [.s 3 2]⟩)], sh := [.z 2] } := by kernel_rfl
theorem a91 : T.at 91 = some {} := by kernel_rfl
theorem a92 : T.at 92 = some { lp := [(4, ⟨[0, 1, 5], [], [], []⟩)], rt := ⟨[4], [], [], []⟩ } := by kernel_rfl
theorem a96 : T.at 96 = some {} := by kernel_rfl
theorem a97 : T.at 97 = some {} := by kernel_rfl
end Go.Proofs.YtaajilepbclmfaaDoor
