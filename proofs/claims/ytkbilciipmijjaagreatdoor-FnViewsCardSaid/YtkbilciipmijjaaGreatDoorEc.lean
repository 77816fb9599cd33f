/- Types and values told as the machine has them. No condition. -/
import Derived.Test.YtkbilciipmijjaaGreatDoorEvB
import Derived.Test.YtkbilciipmijjaaGreatDoorFn
import Derived.Test.YtkbilciipmijjaaGreatDoorProg
import Derived.KernelRfl
namespace Go.Proofs.YtkbilciipmijjaaGreatDoor
open Go Go.Proofs Go.Proofs.YtkbilciipmijjaaGreatDoor.Am
set_option maxHeartbeats 4000000
set_option linter.unusedVariables false
set_option linter.unusedSimpArgs false
set_option linter.defProp false
set_option maxRecDepth 100000
def c_i64 (x : Int) : List AV := [.i .i64 x]
theorem e_c_i64 (x : Int) : c_i64 x = [.i .i64 x] := _root_.id rfl
instance (x : Int) : EncR c_i64 [.i .i64 x] x := ⟨rfl⟩
theorem ld_i64 (xs : List Int) : lendRows (xs.map c_i64) = xs.map c_i64 := t_lend (fun x => by simp only [e_c_i64, lendRow, lendc]) xs
theorem cl_i64 (xs : List Int) : cleanRows (xs.map c_i64) = true := t_clean (fun x => by simp only [e_c_i64, cleans, AV.clean, Bool.and_self]) xs
theorem ib_i64 {R : List (List AV)} {xs : List Int} (i : Int) [h : EncL c_i64 R xs] : inb R i = inb xs i := by rw [h.eq, t_inb]
theorem ro_i64 {R : List (List AV)} {xs : List Int} (i : Int) [h : EncL c_i64 R xs] (hi : inb xs i = true) : rowOf R i.toNat = c_i64 (gt xs i) := by rw [h.eq, t_row xs i hi]
def c_u8 (x : Int) : List AV := [.i .u8 x]
theorem e_c_u8 (x : Int) : c_u8 x = [.i .u8 x] := _root_.id rfl
instance (x : Int) : EncR c_u8 [.i .u8 x] x := ⟨rfl⟩
theorem ld_u8 (xs : List Int) : lendRows (xs.map c_u8) = xs.map c_u8 := t_lend (fun x => by simp only [e_c_u8, lendRow, lendc]) xs
theorem cl_u8 (xs : List Int) : cleanRows (xs.map c_u8) = true := t_clean (fun x => by simp only [e_c_u8, cleans, AV.clean, Bool.and_self]) xs
theorem ib_u8 {R : List (List AV)} {xs : List Int} (i : Int) [h : EncL c_u8 R xs] : inb R i = inb xs i := by rw [h.eq, t_inb]
theorem ro_u8 {R : List (List AV)} {xs : List Int} (i : Int) [h : EncL c_u8 R xs] (hi : inb xs i = true) : rowOf R i.toNat = c_u8 (gt xs i) := by rw [h.eq, t_row xs i hi]
def c_b (x : Bool) : List AV := [.b x]
theorem e_c_b (x : Bool) : c_b x = [.b x] := _root_.id rfl
instance (x : Bool) : EncR c_b [.b x] x := ⟨rfl⟩
theorem ld_b (xs : List Bool) : lendRows (xs.map c_b) = xs.map c_b := t_lend (fun x => by simp only [e_c_b, lendRow, lendc]) xs
theorem cl_b (xs : List Bool) : cleanRows (xs.map c_b) = true := t_clean (fun x => by simp only [e_c_b, cleans, AV.clean, Bool.and_self]) xs
theorem ib_b {R : List (List AV)} {xs : List Bool} (i : Int) [h : EncL c_b R xs] : inb R i = inb xs i := by rw [h.eq, t_inb]
theorem ro_b {R : List (List AV)} {xs : List Bool} (i : Int) [h : EncL c_b R xs] (hi : inb xs i = true) : rowOf R i.toNat = c_b (gt xs i) := by rw [h.eq, t_row xs i hi]
def c_s (x : List UInt8) : List AV := [.s x]
theorem e_c_s (x : List UInt8) : c_s x = [.s x] := _root_.id rfl
instance (x : List UInt8) : EncR c_s [.s x] x := ⟨rfl⟩
theorem ld_s (xs : List (List UInt8)) : lendRows (xs.map c_s) = xs.map c_s := t_lend (fun x => by simp only [e_c_s, lendRow, lendc]) xs
theorem cl_s (xs : List (List UInt8)) : cleanRows (xs.map c_s) = true := t_clean (fun x => by simp only [e_c_s, cleans, AV.clean, Bool.and_self]) xs
theorem ib_s {R : List (List AV)} {xs : List (List UInt8)} (i : Int) [h : EncL c_s R xs] : inb R i = inb xs i := by rw [h.eq, t_inb]
theorem ro_s {R : List (List AV)} {xs : List (List UInt8)} (i : Int) [h : EncL c_s R xs] (hi : inb xs i = true) : rowOf R i.toNat = c_s (gt xs i) := by rw [h.eq, t_row xs i hi]
def cl1Cur (x : l1Cur) : List AV := [.imm 1 (x.b.map c_u8), .i .i64 x.i, .i .i64 x.h]
theorem e_cl1Cur (x : l1Cur) : cl1Cur x = [.imm 1 (x.b.map c_u8), .i .i64 x.i, .i .i64 x.h] := _root_.id rfl
instance (yxi yxh) {R1 yxb} [H1 : EncL c_u8 R1 yxb] : EncR cl1Cur [.imm 1 R1, .i .i64 yxi, .i .i64 yxh] (⟨yxb, yxi, yxh⟩ : l1Cur) := ⟨by obtain ⟨rfl⟩ := H1; rfl⟩
def cl1CurO (x : l1Cur) : List AV := [.own 1 (x.b.map c_u8), .i .i64 x.i, .i .i64 x.h]
theorem e_cl1CurO (x : l1Cur) : cl1CurO x = [.own 1 (x.b.map c_u8), .i .i64 x.i, .i .i64 x.h] := _root_.id rfl
instance (yxi yxh) {R1 yxb} [H1 : EncL c_u8 R1 yxb] : EncR cl1CurO [.own 1 R1, .i .i64 yxi, .i .i64 yxh] (⟨yxb, yxi, yxh⟩ : l1Cur) := ⟨by obtain ⟨rfl⟩ := H1; rfl⟩
theorem ld_l1Cur (xs : List l1Cur) : lendRows (xs.map cl1CurO) = xs.map cl1Cur := t_lend (fun x => by simp only [e_cl1CurO, e_cl1Cur, lendRow, lendc, ld_u8]) xs
theorem cl_l1Cur (xs : List l1Cur) : cleanRows (xs.map cl1CurO) = true := t_clean (fun x => by simp only [e_cl1CurO, cleans, AV.clean, Bool.and_self, cl_u8]) xs
theorem et_l1Cur (x : l1Cur) : (⟨x.b, x.i, x.h⟩ : l1Cur) = x := _root_.id rfl
def cClaim (x : Claim) : List AV := [.i .i64 x.Id, .i .i64 x.Who, .i .i64 x.Thing, .i .i64 x.At, .i .i64 x.State]
theorem e_cClaim (x : Claim) : cClaim x = [.i .i64 x.Id, .i .i64 x.Who, .i .i64 x.Thing, .i .i64 x.At, .i .i64 x.State] := _root_.id rfl
instance (yxId yxWho yxThing yxAt yxState)  : EncR cClaim [.i .i64 yxId, .i .i64 yxWho, .i .i64 yxThing, .i .i64 yxAt, .i .i64 yxState] (⟨yxId, yxWho, yxThing, yxAt, yxState⟩ : Claim) := ⟨by rfl⟩
theorem ld_Claim (xs : List Claim) : lendRows (xs.map cClaim) = xs.map cClaim := t_lend (fun x => by simp only [e_cClaim, lendRow, lendc]) xs
theorem cl_Claim (xs : List Claim) : cleanRows (xs.map cClaim) = true := t_clean (fun x => by simp only [e_cClaim, cleans, AV.clean, Bool.and_self]) xs
theorem et_Claim (x : Claim) : (⟨x.Id, x.Who, x.Thing, x.At, x.State⟩ : Claim) = x := _root_.id rfl
def cThing (x : Thing) : List AV := [.i .i64 x.Id, .i .i64 x.Kind, .i .i64 x.Colour, .i .i64 x.Size, .i .i64 x.Worth]
theorem e_cThing (x : Thing) : cThing x = [.i .i64 x.Id, .i .i64 x.Kind, .i .i64 x.Colour, .i .i64 x.Size, .i .i64 x.Worth] := _root_.id rfl
instance (yxId yxKind yxColour yxSize yxWorth)  : EncR cThing [.i .i64 yxId, .i .i64 yxKind, .i .i64 yxColour, .i .i64 yxSize, .i .i64 yxWorth] (⟨yxId, yxKind, yxColour, yxSize, yxWorth⟩ : Thing) := ⟨by rfl⟩
theorem ld_Thing (xs : List Thing) : lendRows (xs.map cThing) = xs.map cThing := t_lend (fun x => by simp only [e_cThing, lendRow, lendc]) xs
theorem cl_Thing (xs : List Thing) : cleanRows (xs.map cThing) = true := t_clean (fun x => by simp only [e_cThing, cleans, AV.clean, Bool.and_self]) xs
theorem et_Thing (x : Thing) : (⟨x.Id, x.Kind, x.Colour, x.Size, x.Worth⟩ : Thing) = x := _root_.id rfl
def cSlot (x : Slot) : List AV := [.i .i64 x.Id, .i .i64 x.Size, .i .i64 x.Thing]
theorem e_cSlot (x : Slot) : cSlot x = [.i .i64 x.Id, .i .i64 x.Size, .i .i64 x.Thing] := _root_.id rfl
instance (yxId yxSize yxThing)  : EncR cSlot [.i .i64 yxId, .i .i64 yxSize, .i .i64 yxThing] (⟨yxId, yxSize, yxThing⟩ : Slot) := ⟨by rfl⟩
theorem ld_Slot (xs : List Slot) : lendRows (xs.map cSlot) = xs.map cSlot := t_lend (fun x => by simp only [e_cSlot, lendRow, lendc]) xs
theorem cl_Slot (xs : List Slot) : cleanRows (xs.map cSlot) = true := t_clean (fun x => by simp only [e_cSlot, cleans, AV.clean, Bool.and_self]) xs
theorem et_Slot (x : Slot) : (⟨x.Id, x.Size, x.Thing⟩ : Slot) = x := _root_.id rfl
def cMark (x : Mark) : List AV := [.i .i64 x.Question, .i .i64 x.Answer]
theorem e_cMark (x : Mark) : cMark x = [.i .i64 x.Question, .i .i64 x.Answer] := _root_.id rfl
instance (yxQuestion yxAnswer)  : EncR cMark [.i .i64 yxQuestion, .i .i64 yxAnswer] (⟨yxQuestion, yxAnswer⟩ : Mark) := ⟨by rfl⟩
theorem ld_Mark (xs : List Mark) : lendRows (xs.map cMark) = xs.map cMark := t_lend (fun x => by simp only [e_cMark, lendRow, lendc]) xs
theorem cl_Mark (xs : List Mark) : cleanRows (xs.map cMark) = true := t_clean (fun x => by simp only [e_cMark, cleans, AV.clean, Bool.and_self]) xs
theorem et_Mark (x : Mark) : (⟨x.Question, x.Answer⟩ : Mark) = x := _root_.id rfl
def cSecret (x : Secret) : List AV := [.i .i64 x.Thing, .imm 2 (x.Marks.map cMark), .i .i64 x.Salt]
theorem e_cSecret (x : Secret) : cSecret x = [.i .i64 x.Thing, .imm 2 (x.Marks.map cMark), .i .i64 x.Salt] := _root_.id rfl
instance (yxThing yxSalt) {R1 yxMarks} [H1 : EncL cMark R1 yxMarks] : EncR cSecret [.i .i64 yxThing, .imm 2 R1, .i .i64 yxSalt] (⟨yxThing, yxMarks, yxSalt⟩ : Secret) := ⟨by obtain ⟨rfl⟩ := H1; rfl⟩
def cSecretO (x : Secret) : List AV := [.i .i64 x.Thing, .own 2 (x.Marks.map cMark), .i .i64 x.Salt]
theorem e_cSecretO (x : Secret) : cSecretO x = [.i .i64 x.Thing, .own 2 (x.Marks.map cMark), .i .i64 x.Salt] := _root_.id rfl
instance (yxThing yxSalt) {R1 yxMarks} [H1 : EncL cMark R1 yxMarks] : EncR cSecretO [.i .i64 yxThing, .own 2 R1, .i .i64 yxSalt] (⟨yxThing, yxMarks, yxSalt⟩ : Secret) := ⟨by obtain ⟨rfl⟩ := H1; rfl⟩
theorem ld_Secret (xs : List Secret) : lendRows (xs.map cSecretO) = xs.map cSecret := t_lend (fun x => by simp only [e_cSecretO, e_cSecret, lendRow, lendc, ld_Mark]) xs
theorem cl_Secret (xs : List Secret) : cleanRows (xs.map cSecretO) = true := t_clean (fun x => by simp only [e_cSecretO, cleans, AV.clean, Bool.and_self, cl_Mark]) xs
theorem et_Secret (x : Secret) : (⟨x.Thing, x.Marks, x.Salt⟩ : Secret) = x := _root_.id rfl
def cFind (x : Find) : List AV := [.i .i64 x.Thing.Id, .i .i64 x.Thing.Kind, .i .i64 x.Thing.Colour, .i .i64 x.Thing.Size, .i .i64 x.Thing.Worth, .i .i64 x.Place, .i .i64 x.At, .i .i64 x.Finder]
theorem e_cFind (x : Find) : cFind x = [.i .i64 x.Thing.Id, .i .i64 x.Thing.Kind, .i .i64 x.Thing.Colour, .i .i64 x.Thing.Size, .i .i64 x.Thing.Worth, .i .i64 x.Place, .i .i64 x.At, .i .i64 x.Finder] := _root_.id rfl
instance (yxThingxId yxThingxKind yxThingxColour yxThingxSize yxThingxWorth yxPlace yxAt yxFinder)  : EncR cFind [.i .i64 yxThingxId, .i .i64 yxThingxKind, .i .i64 yxThingxColour, .i .i64 yxThingxSize, .i .i64 yxThingxWorth, .i .i64 yxPlace, .i .i64 yxAt, .i .i64 yxFinder] (⟨⟨yxThingxId, yxThingxKind, yxThingxColour, yxThingxSize, yxThingxWorth⟩, yxPlace, yxAt, yxFinder⟩ : Find) := ⟨by rfl⟩
theorem ld_Find (xs : List Find) : lendRows (xs.map cFind) = xs.map cFind := t_lend (fun x => by simp only [e_cFind, lendRow, lendc]) xs
theorem cl_Find (xs : List Find) : cleanRows (xs.map cFind) = true := t_clean (fun x => by simp only [e_cFind, cleans, AV.clean, Bool.and_self]) xs
theorem et_Find (x : Find) : (⟨x.Thing, x.Place, x.At, x.Finder⟩ : Find) = x := _root_.id rfl
def cTrial (x : Trial) : List AV := [.i .i64 x.Claim, .i .i64 x.Asked, .i .i64 x.Right, .i .i64 x.Wrong]
theorem e_cTrial (x : Trial) : cTrial x = [.i .i64 x.Claim, .i .i64 x.Asked, .i .i64 x.Right, .i .i64 x.Wrong] := _root_.id rfl
instance (yxClaim yxAsked yxRight yxWrong)  : EncR cTrial [.i .i64 yxClaim, .i .i64 yxAsked, .i .i64 yxRight, .i .i64 yxWrong] (⟨yxClaim, yxAsked, yxRight, yxWrong⟩ : Trial) := ⟨by rfl⟩
theorem ld_Trial (xs : List Trial) : lendRows (xs.map cTrial) = xs.map cTrial := t_lend (fun x => by simp only [e_cTrial, lendRow, lendc]) xs
theorem cl_Trial (xs : List Trial) : cleanRows (xs.map cTrial) = true := t_clean (fun x => by simp only [e_cTrial, cleans, AV.clean, Bool.and_self]) xs
theorem et_Trial (x : Trial) : (⟨x.Claim, x.Asked, x.Right, x.Wrong⟩ : Trial) = x := _root_.id rfl
def cHand (x : Hand) : List AV := [.i .i64 x.Thing, .i .i64 x.Holder, .i .i64 x.Who, .i .i64 x.At, .i .i64 x.Seal]
theorem e_cHand (x : Hand) : cHand x = [.i .i64 x.Thing, .i .i64 x.Holder, .i .i64 x.Who, .i .i64 x.At, .i .i64 x.Seal] := _root_.id rfl
instance (yxThing yxHolder yxWho yxAt yxSeal)  : EncR cHand [.i .i64 yxThing, .i .i64 yxHolder, .i .i64 yxWho, .i .i64 yxAt, .i .i64 yxSeal] (⟨yxThing, yxHolder, yxWho, yxAt, yxSeal⟩ : Hand) := ⟨by rfl⟩
theorem ld_Hand (xs : List Hand) : lendRows (xs.map cHand) = xs.map cHand := t_lend (fun x => by simp only [e_cHand, lendRow, lendc]) xs
theorem cl_Hand (xs : List Hand) : cleanRows (xs.map cHand) = true := t_clean (fun x => by simp only [e_cHand, cleans, AV.clean, Bool.and_self]) xs
theorem et_Hand (x : Hand) : (⟨x.Thing, x.Holder, x.Who, x.At, x.Seal⟩ : Hand) = x := _root_.id rfl
def cEntry (x : Entry) : List AV := [.i .i64 x.From, .i .i64 x.To, .i .i64 x.Cents, .i .i64 x.At]
theorem e_cEntry (x : Entry) : cEntry x = [.i .i64 x.From, .i .i64 x.To, .i .i64 x.Cents, .i .i64 x.At] := _root_.id rfl
instance (yxFrom yxTo yxCents yxAt)  : EncR cEntry [.i .i64 yxFrom, .i .i64 yxTo, .i .i64 yxCents, .i .i64 yxAt] (⟨yxFrom, yxTo, yxCents, yxAt⟩ : Entry) := ⟨by rfl⟩
theorem ld_Entry (xs : List Entry) : lendRows (xs.map cEntry) = xs.map cEntry := t_lend (fun x => by simp only [e_cEntry, lendRow, lendc]) xs
theorem cl_Entry (xs : List Entry) : cleanRows (xs.map cEntry) = true := t_clean (fun x => by simp only [e_cEntry, cleans, AV.clean, Bool.and_self]) xs
theorem et_Entry (x : Entry) : (⟨x.From, x.To, x.Cents, x.At⟩ : Entry) = x := _root_.id rfl
def cHouse (x : House) : List AV := [.i .i64 x.No, .imm 8 (x.Finds.map cFind), .imm 3 (x.Secrets.map cSecret), .imm 3 (x.Slots.map cSlot), .imm 5 (x.Claims.map cClaim), .imm 4 (x.Trials.map cTrial), .imm 5 (x.Chain.map cHand), .imm 4 (x.Book.map cEntry), .i .i64 x.Now]
theorem e_cHouse (x : House) : cHouse x = [.i .i64 x.No, .imm 8 (x.Finds.map cFind), .imm 3 (x.Secrets.map cSecret), .imm 3 (x.Slots.map cSlot), .imm 5 (x.Claims.map cClaim), .imm 4 (x.Trials.map cTrial), .imm 5 (x.Chain.map cHand), .imm 4 (x.Book.map cEntry), .i .i64 x.Now] := _root_.id rfl
instance (yxNo yxNow) {R1 yxFinds R2 yxSecrets R3 yxSlots R4 yxClaims R5 yxTrials R6 yxChain R7 yxBook} [H1 : EncL cFind R1 yxFinds] [H2 : EncL cSecret R2 yxSecrets] [H3 : EncL cSlot R3 yxSlots] [H4 : EncL cClaim R4 yxClaims] [H5 : EncL cTrial R5 yxTrials] [H6 : EncL cHand R6 yxChain] [H7 : EncL cEntry R7 yxBook] : EncR cHouse [.i .i64 yxNo, .imm 8 R1, .imm 3 R2, .imm 3 R3, .imm 5 R4, .imm 4 R5, .imm 5 R6, .imm 4 R7, .i .i64 yxNow] (⟨yxNo, yxFinds, yxSecrets, yxSlots, yxClaims, yxTrials, yxChain, yxBook, yxNow⟩ : House) := ⟨by obtain ⟨rfl⟩ := H1; obtain ⟨rfl⟩ := H2; obtain ⟨rfl⟩ := H3; obtain ⟨rfl⟩ := H4; obtain ⟨rfl⟩ := H5; obtain ⟨rfl⟩ := H6; obtain ⟨rfl⟩ := H7; rfl⟩
def cHouseO (x : House) : List AV := [.i .i64 x.No, .own 8 (x.Finds.map cFind), .own 3 (x.Secrets.map cSecretO), .own 3 (x.Slots.map cSlot), .own 5 (x.Claims.map cClaim), .own 4 (x.Trials.map cTrial), .own 5 (x.Chain.map cHand), .own 4 (x.Book.map cEntry), .i .i64 x.Now]
theorem e_cHouseO (x : House) : cHouseO x = [.i .i64 x.No, .own 8 (x.Finds.map cFind), .own 3 (x.Secrets.map cSecretO), .own 3 (x.Slots.map cSlot), .own 5 (x.Claims.map cClaim), .own 4 (x.Trials.map cTrial), .own 5 (x.Chain.map cHand), .own 4 (x.Book.map cEntry), .i .i64 x.Now] := _root_.id rfl
instance (yxNo yxNow) {R1 yxFinds R2 yxSecrets R3 yxSlots R4 yxClaims R5 yxTrials R6 yxChain R7 yxBook} [H1 : EncL cFind R1 yxFinds] [H2 : EncL cSecretO R2 yxSecrets] [H3 : EncL cSlot R3 yxSlots] [H4 : EncL cClaim R4 yxClaims] [H5 : EncL cTrial R5 yxTrials] [H6 : EncL cHand R6 yxChain] [H7 : EncL cEntry R7 yxBook] : EncR cHouseO [.i .i64 yxNo, .own 8 R1, .own 3 R2, .own 3 R3, .own 5 R4, .own 4 R5, .own 5 R6, .own 4 R7, .i .i64 yxNow] (⟨yxNo, yxFinds, yxSecrets, yxSlots, yxClaims, yxTrials, yxChain, yxBook, yxNow⟩ : House) := ⟨by obtain ⟨rfl⟩ := H1; obtain ⟨rfl⟩ := H2; obtain ⟨rfl⟩ := H3; obtain ⟨rfl⟩ := H4; obtain ⟨rfl⟩ := H5; obtain ⟨rfl⟩ := H6; obtain ⟨rfl⟩ := H7; rfl⟩
theorem ld_House (xs : List House) : lendRows (xs.map cHouseO) = xs.map cHouse := t_lend (fun x => by simp only [e_cHouseO, e_cHouse, lendRow, lendc, ld_Claim, ld_Entry, ld_Find, ld_Hand, ld_Secret, ld_Slot, ld_Trial]) xs
theorem cl_House (xs : List House) : cleanRows (xs.map cHouseO) = true := t_clean (fun x => by simp only [e_cHouseO, cleans, AV.clean, Bool.and_self, cl_Claim, cl_Entry, cl_Find, cl_Hand, cl_Secret, cl_Slot, cl_Trial]) xs
theorem et_House (x : House) : (⟨x.No, x.Finds, x.Secrets, x.Slots, x.Claims, x.Trials, x.Chain, x.Book, x.Now⟩ : House) = x := _root_.id rfl
def cHit (x : Hit) : List AV := [.i .i64 x.House, .i .i64 x.Thing]
theorem e_cHit (x : Hit) : cHit x = [.i .i64 x.House, .i .i64 x.Thing] := _root_.id rfl
instance (yxHouse yxThing)  : EncR cHit [.i .i64 yxHouse, .i .i64 yxThing] (⟨yxHouse, yxThing⟩ : Hit) := ⟨by rfl⟩
theorem ld_Hit (xs : List Hit) : lendRows (xs.map cHit) = xs.map cHit := t_lend (fun x => by simp only [e_cHit, lendRow, lendc]) xs
theorem cl_Hit (xs : List Hit) : cleanRows (xs.map cHit) = true := t_clean (fun x => by simp only [e_cHit, cleans, AV.clean, Bool.and_self]) xs
theorem et_Hit (x : Hit) : (⟨x.House, x.Thing⟩ : Hit) = x := _root_.id rfl
def encs := aI @e_c_i64 <| aI @ld_i64 <| aI @cl_i64 <| aI @ib_i64 <| aI @ro_i64 <| aI @e_c_u8 <| aI @ld_u8 <| aI @cl_u8 <| aI @ib_u8 <| aI @ro_u8 <| aI @e_c_b <| aI @ld_b <| aI @cl_b <| aI @ib_b <| aI @ro_b <| aI @e_c_s <| aI @ld_s <| aI @cl_s <| aI @ib_s <| aI @ro_s <| aI @e_cl1Cur <| aI @ld_l1Cur <| aI @cl_l1Cur <| aI @et_l1Cur <| aI @e_cl1CurO <| aI @e_cClaim <| aI @ld_Claim <| aI @cl_Claim <| aI @et_Claim <| aI @e_cThing <| aI @ld_Thing <| aI @cl_Thing <| aI @et_Thing <| aI @e_cSlot <| aI @ld_Slot <| aI @cl_Slot <| aI @et_Slot <| aI @e_cMark <| aI @ld_Mark <| aI @cl_Mark <| aI @et_Mark <| aI @e_cSecret <| aI @ld_Secret <| aI @cl_Secret <| aI @et_Secret <| aI @e_cSecretO <| aI @e_cFind <| aI @ld_Find <| aI @cl_Find <| aI @et_Find <| aI @e_cTrial <| aI @ld_Trial <| aI @cl_Trial <| aI @et_Trial <| aI @e_cHand <| aI @ld_Hand <| aI @cl_Hand <| aI @et_Hand <| aI @e_cEntry <| aI @ld_Entry <| aI @cl_Entry <| aI @et_Entry <| aI @e_cHouse <| aI @ld_House <| aI @cl_House <| aI @et_House <| aI @e_cHouseO <| aI @e_cHit <| aI @ld_Hit <| aI @cl_Hit @et_Hit
theorem tys : bsl Tryz.prog 5 = false ∧ flT Tryz.prog 103 = false ∧ slz Tryz.prog 9 103 = [2] ∧ slzE Tryz.prog 103 = [0, 0] ∧ slzE Tryz.prog 26 = [0, 0, 0, 0, 0] ∧ slzE Tryz.prog 29 = [0, 0, 0] ∧ slzE Tryz.prog 33 = [0, 0, 0, 0, 0, 0, 0, 0] ∧ slzE Tryz.prog 34 = [0, 2, 0] ∧ slzE Tryz.prog 36 = [0, 0, 0, 0, 0] ∧ slzE Tryz.prog 37 = [0, 0, 0, 0] ∧ slzE Tryz.prog 47 = [0] ∧ slzE Tryz.prog 49 = [0] ∧ tb Tryz.prog 102 = some 32 ∧ tb Tryz.prog 105 = some 40 ∧ tb Tryz.prog 132 = some 16 ∧ tb Tryz.prog 148 = some 32 ∧ tb Tryz.prog 3 = some 8 ∧ tb Tryz.prog 51 = some 40 ∧ tb Tryz.prog 54 = some 24 ∧ tb Tryz.prog 9 = some 16 ∧ tb Tryz.prog 96 = some 64 ∧ tb Tryz.prog 98 = some 40 ∧ tbd Tryz.prog 102 = .st [.i .i64 0, .i .i64 0, .i .i64 0, .i .i64 0] [(0, 1), (1, 1), (2, 1), (3, 1)] ∧ tbd Tryz.prog 105 = .st [.i .i64 0, .nil, .i .i64 0] [(0, 1), (1, 1), (2, 1)] ∧ tbd Tryz.prog 132 = .st [.i .i64 0, .i .i64 0] [(0, 1), (1, 1)] ∧ tbd Tryz.prog 39 = .st [.i .i64 0, .nil, .nil, .nil, .nil, .nil, .nil, .nil, .i .i64 0] [(0, 1), (1, 1), (2, 1), (3, 1), (4, 1), (5, 1), (6, 1), (7, 1), (8, 1)] ∧ tbd Tryz.prog 51 = .st [.i .i64 0, .i .i64 0, .i .i64 0, .i .i64 0, .i .i64 0] [(0, 1), (1, 1), (2, 1), (3, 1), (4, 1)] ∧ tbd Tryz.prog 54 = .st [.i .i64 0, .i .i64 0, .i .i64 0] [(0, 1), (1, 1), (2, 1)] ∧ tbd Tryz.prog 59 = .st [.nil, .i .i64 0, .i .i64 0] [(0, 1), (1, 1), (2, 1)] ∧ tbd Tryz.prog 89 = .st [.i .i64 0, .i .i64 0, .i .i64 0, .i .i64 0, .i .i64 0] [(0, 1), (1, 1), (2, 1), (3, 1), (4, 1)] ∧ tbd Tryz.prog 96 = .st [.i .i64 0, .i .i64 0, .i .i64 0, .i .i64 0, .i .i64 0, .i .i64 0, .i .i64 0, .i .i64 0] [(0, 5), (5, 1), (6, 1), (7, 1)] ∧ tbd Tryz.prog 98 = .st [.i .i64 0, .i .i64 0, .i .i64 0, .i .i64 0, .i .i64 0] [(0, 1), (1, 1), (2, 1), (3, 1), (4, 1)] ∧ teqP Tryz.prog 4 = some [.t] ∧ tfo Tryz.prog 102 0 = some (0, .one) ∧ tfo Tryz.prog 102 1 = some (1, .one) ∧ tfo Tryz.prog 102 2 = some (2, .one) ∧ tfo Tryz.prog 102 3 = some (3, .one) ∧ tfo Tryz.prog 105 0 = some (0, .one) ∧ tfo Tryz.prog 105 1 = some (1, .one) ∧ tfo Tryz.prog 105 2 = some (2, .one) ∧ tfo Tryz.prog 132 0 = some (0, .one) ∧ tfo Tryz.prog 132 1 = some (1, .one) ∧ tfo Tryz.prog 148 0 = some (0, .one) ∧ tfo Tryz.prog 148 1 = some (1, .one) ∧ tfo Tryz.prog 148 2 = some (2, .one) ∧ tfo Tryz.prog 148 3 = some (3, .one) ∧ tfo Tryz.prog 39 0 = some (0, .one) ∧ tfo Tryz.prog 39 1 = some (1, .one) ∧ tfo Tryz.prog 39 2 = some (2, .one) ∧ tfo Tryz.prog 39 3 = some (3, .one) ∧ tfo Tryz.prog 39 4 = some (4, .one) ∧ tfo Tryz.prog 39 5 = some (5, .one) ∧ tfo Tryz.prog 39 6 = some (6, .one) ∧ tfo Tryz.prog 39 7 = some (7, .one) ∧ tfo Tryz.prog 39 8 = some (8, .one) ∧ tfo Tryz.prog 51 0 = some (0, .one) ∧ tfo Tryz.prog 51 1 = some (1, .one) ∧ tfo Tryz.prog 51 2 = some (2, .one) ∧ tfo Tryz.prog 51 3 = some (3, .one) ∧ tfo Tryz.prog 51 4 = some (4, .one) ∧ tfo Tryz.prog 54 0 = some (0, .one) ∧ tfo Tryz.prog 54 1 = some (1, .one) ∧ tfo Tryz.prog 54 2 = some (2, .one) ∧ tfo Tryz.prog 57 0 = some (0, .one) ∧ tfo Tryz.prog 57 1 = some (1, .one) ∧ tfo Tryz.prog 59 0 = some (0, .one) ∧ tfo Tryz.prog 59 1 = some (1, .one) ∧ tfo Tryz.prog 59 2 = some (2, .one) ∧ tfo Tryz.prog 89 0 = some (0, .one) ∧ tfo Tryz.prog 89 1 = some (1, .one) ∧ tfo Tryz.prog 89 2 = some (2, .one) ∧ tfo Tryz.prog 89 3 = some (3, .one) ∧ tfo Tryz.prog 89 4 = some (4, .one) ∧ tfo Tryz.prog 96 0 = some (0, .agg 5) ∧ tfo Tryz.prog 96 1 = some (5, .one) ∧ tfo Tryz.prog 96 2 = some (6, .one) ∧ tfo Tryz.prog 96 3 = some (7, .one) ∧ tfo Tryz.prog 98 0 = some (0, .one) ∧ tfo Tryz.prog 98 1 = some (1, .one) ∧ tfo Tryz.prog 98 2 = some (2, .one) ∧ tfo Tryz.prog 98 3 = some (3, .one) ∧ tfo Tryz.prog 98 4 = some (4, .one) ∧ ti Tryz.prog 103 = .sl 132 2 ∧ ti Tryz.prog 22 = .sl 5 1 ∧ ti Tryz.prog 26 = .sl 51 5 ∧ ti Tryz.prog 29 = .sl 54 3 ∧ ti Tryz.prog 3 = .int .i64 ∧ ti Tryz.prog 33 = .sl 96 8 ∧ ti Tryz.prog 34 = .sl 105 3 ∧ ti Tryz.prog 35 = .sl 148 4 ∧ ti Tryz.prog 36 = .sl 98 5 ∧ ti Tryz.prog 37 = .sl 102 4 ∧ ti Tryz.prog 47 = .sl 3 1 ∧ ti Tryz.prog 49 = .sl 9 1 ∧ ti Tryz.prog 55 = .sl 57 2 ∧ ti Tryz.prog 9 = .str ∧ tk Tryz.prog 102 = .agg 4 ∧ tk Tryz.prog 103 = .one ∧ tk Tryz.prog 105 = .agg 3 ∧ tk Tryz.prog 132 = .agg 2 ∧ tk Tryz.prog 148 = .agg 4 ∧ tk Tryz.prog 22 = .one ∧ tk Tryz.prog 26 = .one ∧ tk Tryz.prog 29 = .one ∧ tk Tryz.prog 3 = .one ∧ tk Tryz.prog 33 = .one ∧ tk Tryz.prog 34 = .one ∧ tk Tryz.prog 35 = .one ∧ tk Tryz.prog 36 = .one ∧ tk Tryz.prog 37 = .one ∧ tk Tryz.prog 39 = .agg 9 ∧ tk Tryz.prog 5 = .one ∧ tk Tryz.prog 51 = .agg 5 ∧ tk Tryz.prog 54 = .agg 3 ∧ tk Tryz.prog 57 = .agg 2 ∧ tk Tryz.prog 89 = .agg 5 ∧ tk Tryz.prog 96 = .agg 8 ∧ tk Tryz.prog 98 = .agg 5 ∧ tnoint Tryz.prog 103 = true ∧ tnoint Tryz.prog 26 = true ∧ tnoint Tryz.prog 29 = true ∧ tnoint Tryz.prog 33 = true ∧ tnoint Tryz.prog 34 = true ∧ tnoint Tryz.prog 35 = true ∧ tnoint Tryz.prog 36 = true ∧ tnoint Tryz.prog 37 = true ∧ tnoint Tryz.prog 47 = true ∧ tnoint Tryz.prog 49 = true ∧ tok Tryz.prog 5 = true ∧ tse Tryz.prog 103 = some (132, 2, [.i .i64 0, .i .i64 0]) ∧ tse Tryz.prog 26 = some (51, 5, [.i .i64 0, .i .i64 0, .i .i64 0, .i .i64 0, .i .i64 0]) ∧ tse Tryz.prog 29 = some (54, 3, [.i .i64 0, .i .i64 0, .i .i64 0]) ∧ tse Tryz.prog 33 = some (96, 8, [.i .i64 0, .i .i64 0, .i .i64 0, .i .i64 0, .i .i64 0, .i .i64 0, .i .i64 0, .i .i64 0]) ∧ tse Tryz.prog 34 = some (105, 3, [.i .i64 0, .nil, .i .i64 0]) ∧ tse Tryz.prog 35 = some (148, 4, [.i .i64 0, .i .i64 0, .i .i64 0, .i .i64 0]) ∧ tse Tryz.prog 36 = some (98, 5, [.i .i64 0, .i .i64 0, .i .i64 0, .i .i64 0, .i .i64 0]) ∧ tse Tryz.prog 37 = some (102, 4, [.i .i64 0, .i .i64 0, .i .i64 0, .i .i64 0]) ∧ tse Tryz.prog 47 = some (3, 1, [.i .i64 0]) ∧ tse Tryz.prog 49 = some (9, 1, [.s []]) ∧ tzc Tryz.prog 102 = some [.i .i64 0, .i .i64 0, .i .i64 0, .i .i64 0] ∧ tzc Tryz.prog 105 = some [.i .i64 0, .nil, .i .i64 0] ∧ tzc Tryz.prog 39 = some [.i .i64 0, .nil, .nil, .nil, .nil, .nil, .nil, .nil, .i .i64 0] ∧ tzc Tryz.prog 51 = some [.i .i64 0, .i .i64 0, .i .i64 0, .i .i64 0, .i .i64 0] ∧ tzc Tryz.prog 54 = some [.i .i64 0, .i .i64 0, .i .i64 0] ∧ tzc Tryz.prog 57 = some [.i .i64 0, .i .i64 0] ∧ tzc Tryz.prog 89 = some [.i .i64 0, .i .i64 0, .i .i64 0, .i .i64 0, .i .i64 0] ∧ tzc Tryz.prog 96 = some [.i .i64 0, .i .i64 0, .i .i64 0, .i .i64 0, .i .i64 0, .i .i64 0, .i .i64 0, .i .i64 0] ∧ tzc Tryz.prog 98 = some [.i .i64 0, .i .i64 0, .i .i64 0, .i .i64 0, .i .i64 0] := by and_intros <;> kernel_rfl
def strsOf : List (List AV) → Option (List (List UInt8))
  | [] => some []
  | [.s x] :: r => (strsOf r).map (x :: ·)
  | _ => none
theorem strsOf_map : ∀ l : List (List UInt8), strsOf (l.map c_s) = some l
  | [] => rfl
  | x :: l => by rw [List.map_cons, e_c_s, strsOf, strsOf_map l]; rfl
def xt (g : Nat) (args : List AV) : Option AV := match args with
  | [.imm 1 R, .s s] => if g = 27 then (strsOf R).bind fun l => (strings_Join l s).map .s else none
  | [.i .i64 x] => if g = 25 then (strconv_Itoa x).map .s else none
  | _ => none
def An3 : Ann := { jn := [(5, (42, 22, 42)), (30, (2, 90, 112))], lp := [(11, ⟨[0, 5, 6, 7, 8], [.s 5 5], [0, 5, 7], [.s 5 5]⟩), (19, ⟨[0, 5, 7, 9, 10, 11, 12], [.s 5 5, .s 9 3], [0, 5, 7, 9, 11], [.s 5 5, .s 9 3]⟩), (26, ⟨[5, 7, 9, 11, 13, 14, 15], [.s 5 5, .s 9 3], [5, 7, 9, 11, 14], [.s 5 5, .s 9 3]⟩)] }
def An4 : Ann := {}
def An5 : Ann := { av := [(1, [15]), (2, [16, 17])] }
def An6 : Ann := {}
def An7 : Ann := { sh := [.z 5] }
def An8 : Ann := { ord := [(8, [0, 1, 2, 5, 6, 10, 11, 14, 3, 4, 7, 8, 9, 12, 13, 15, 16, 17, 18])], lp := [(3, ⟨[3, 8, 9, 10], [.s 3 1], [3], [.s 3 1]⟩)] }
def An9 : Ann := { sh := [.z 3] }
def An10 : Ann := { lp := [(3, ⟨[3, 8, 9, 10], [.s 3 1], [3], [.s 3 1]⟩)] }
def An11 : Ann := {}
def An12 : Ann := { sh := [.a [0, 8, 3, 3, 5, 4, 5, 4, 0]] }
def An13 : Ann := { lp := [(3, ⟨[3, 7, 8, 9], [.s 3 1], [3], [.s 3 1]⟩)] }
def An14 : Ann := { ord := [(5, [0, 1, 2, 5, 6, 3, 4, 7, 8, 9, 10, 11])], lp := [(3, ⟨[3, 7, 8, 9], [.s 3 1], [3], [.s 3 1]⟩)] }
def An15 : Ann := { nr := some [.s 32 0], jn := [(3, (15, 8, 15))], lp := [(3, ⟨[0, 3, 4], [], [0, 3], []⟩)] }
def An16 : Ann := { ak := [0, 1], av := [(1, [24])] }
def An17 : Ann := { ak := [0], av := [(1, [16])] }
def An18 : Ann := { jn := [(1, (6, 7, 15))] }
def An19 : Ann := {}
def An20 : Ann := { av := [(1, [15]), (2, [26])], sh := [.z 5] }
def An21 : Ann := {}
def An22 : Ann := { av := [(1, [15]), (2, [28])], sh := [.z 3] }
def An23 : Ann := { av := [(1, [15]), (2, [29])], sh := [.a [0, 8, 3, 3, 5, 4, 5, 4, 0]] }
def An24 : Ann := { ak := [0], av := [(4, [30]), (5, [30]), (6, [30]), (7, [30])] }
def An26 : Ann := { nr := some [.r 0, .s 53 5], ak := [0], av := [(1, [32]), (4, [24]), (5, [24]), (7, [16]), (9, [17]), (11, [16]), (13, [16])], sh := [.z 5] }
def An28 : Ann := { nr := some [.r 0, .s 50 3], ak := [0], av := [(1, [36]), (2, [24]), (3, [24]), (5, [16]), (7, [17]), (9, [16])], sh := [.z 3] }
def An29 : Ann := { nr := some [.r 0, .g 62 1 8, .g 62 2 3, .g 62 3 3, .g 62 4 5, .g 62 5 4, .g 62 6 5, .g 62 7 4], ak := [0], av := [(1, [24, 38]), (2, [24]), (3, [24]), (5, [16]), (7, [39]), (9, [28]), (11, [26]), (13, [40]), (15, [41]), (17, [16]), (19, [42])], sh := [.a [0, 8, 3, 3, 5, 4, 5, 4, 0]] }
def An30 : Ann := { ot := [(2, .one 0 (.one 5 (.alt (.one 1 (.alt (.one 2 (.alt (.one 3 (.one 4 (.one 6 (.one 7 (.one 8 (.one 9 (.one 10 (.one 11 (.one 12 (.done)))))))))) (.one 6 (.one 3 (.one 4 (.one 7 (.one 8 (.one 9 (.one 10 (.one 11 (.one 12 (.done)))))))))))) (.one 6 (.one 2 (.one 3 (.one 4 (.one 7 (.one 8 (.one 9 (.one 10 (.one 11 (.one 12 (.done))))))))))))) (.one 6 (.alt (.one 1 (.one 2 (.one 3 (.one 4 (.one 7 (.one 8 (.one 9 (.one 10 (.one 11 (.one 12 (.done))))))))))) (.one 7 (.alt (.one 1 (.one 2 (.one 3 (.one 4 (.one 8 (.one 9 (.one 10 (.one 11 (.one 12 (.done)))))))))) (.one 8 (.one 9 (.one 1 (.one 2 (.one 3 (.one 4 (.one 10 (.one 11 (.one 12 (.done))))))))))))))))), (3, .one 0 (.one 4 (.alt (.one 1 (.alt (.one 2 (.alt (.one 3 (.one 5 (.one 6 (.one 7 (.one 8 (.one 9 (.done))))))) (.one 5 (.one 3 (.one 6 (.one 7 (.one 8 (.one 9 (.done))))))))) (.one 5 (.one 2 (.one 3 (.one 6 (.one 7 (.one 8 (.one 9 (.done)))))))))) (.one 5 (.alt (.one 1 (.one 2 (.one 3 (.one 6 (.one 7 (.one 8 (.one 9 (.done)))))))) (.one 6 (.alt (.one 1 (.one 2 (.one 3 (.one 7 (.one 8 (.one 9 (.done))))))) (.one 7 (.alt (.one 1 (.one 2 (.one 3 (.one 8 (.one 9 (.done)))))) (.one 8 (.one 1 (.one 2 (.one 3 (.one 9 (.done))))))))))))))), (4, .one 0 (.one 1 (.one 5 (.alt (.one 2 (.alt (.one 3 (.alt (.one 4 (.one 6 (.one 7 (.one 8 (.one 9 (.one 10 (.one 11 (.one 12 (.one 13 (.one 14 (.done))))))))))) (.one 6 (.one 4 (.one 7 (.one 8 (.one 9 (.one 10 (.one 11 (.one 12 (.one 13 (.one 14 (.done))))))))))))) (.one 6 (.one 3 (.one 4 (.one 7 (.one 8 (.one 9 (.one 10 (.one 11 (.one 12 (.one 13 (.one 14 (.done)))))))))))))) (.one 6 (.alt (.one 2 (.one 3 (.one 4 (.one 7 (.one 8 (.one 9 (.one 10 (.one 11 (.one 12 (.one 13 (.one 14 (.done)))))))))))) (.one 7 (.alt (.one 2 (.one 3 (.one 4 (.one 8 (.one 9 (.one 10 (.one 11 (.one 12 (.one 13 (.one 14 (.done))))))))))) (.one 8 (.one 2 (.one 3 (.one 4 (.one 9 (.one 10 (.one 11 (.one 12 (.one 13 (.one 14 (.done)))))))))))))))))))], ak := [0] }
def An32 : Ann := { nr := some [.r 0, .s 39 5], ak := [0], av := [(3, [24]), (5, [24]), (6, [24])], lp := [(3, ⟨[0, 3, 4], [.s 0 0, .s 3 5], [0, 3], [.s 0 0, .s 3 5]⟩)], sh := [.z 5] }
def An36 : Ann := { nr := some [.r 0, .s 40 3], ak := [0], av := [(3, [24]), (5, [24]), (6, [24]), (9, [24, 49])], lp := [(3, ⟨[0, 3, 4], [.s 0 0, .s 3 3], [0, 3], [.s 0 0, .s 3 3]⟩), (7, ⟨[0, 3, 5], [.s 0 0, .s 3 3], [0, 3], [.s 0 0, .s 3 3]⟩)], sh := [.z 3] }
def An37 : Ann := { jn := [(2, (20, 11, 20))], sh := [.a [0, 8, 3, 3, 5, 4, 5, 4, 0], .n] }
def An38 : Ann := { nr := some [.r 0, .s 23 3], ak := [0], av := [(3, [24]), (5, [24])], lp := [(3, ⟨[0, 3, 4], [.s 0 0, .s 3 3], [0, 3], [.s 0 0, .s 3 3]⟩)], sh := [.z 3] }
def An39 : Ann := { nr := some [.r 0, .s 52 8], ak := [0], av := [(1, [53]), (4, [24]), (5, [24]), (7, [54]), (9, [16]), (11, [17]), (13, [16])], sh := [.z 8] }
def An40 : Ann := { nr := some [.r 0, .s 68 5], ak := [0], av := [(1, [55]), (4, [24]), (5, [24]), (9, [16]), (11, [17]), (13, [16])], sh := [.z 5] }
def An41 : Ann := { nr := some [.r 0, .s 68 4], ak := [0], av := [(3, [24]), (6, [24]), (7, [24]), (9, [24]), (10, [24]), (12, [16]), (14, [16]), (16, [17])], lp := [(4, ⟨[0, 3, 4, 5], [.s 0 0, .s 3 4], [0, 3], [.s 0 0, .s 3 4]⟩)], sh := [.z 4] }
def An42 : Ann := { nr := some [.r 0, .s 56 3], ak := [0], av := [(3, [24]), (5, [57]), (7, [24]), (8, [24]), (10, [16]), (12, [58]), (14, [16])], lp := [(3, ⟨[0, 3, 4], [.s 0 0, .s 3 3], [0, 3], [.s 0 0, .s 3 3]⟩)], sh := [.z 3] }
def An44 : Ann := { ot := [(9, .one 1 (.one 2 (.one 3 (.one 8 (.one 9 (.one 10 (.alt (.one 0 (.alt (.one 4 (.one 5 (.one 6 (.one 7 (.one 11 (.one 12 (.done))))))) (.one 5 (.alt (.one 4 (.one 6 (.one 7 (.one 11 (.one 12 (.done)))))) (.one 6 (.one 4 (.one 7 (.one 11 (.one 12 (.done)))))))))) (.one 5 (.alt (.one 0 (.alt (.one 4 (.one 6 (.one 7 (.one 11 (.one 12 (.done)))))) (.one 6 (.one 4 (.one 7 (.one 11 (.one 12 (.done)))))))) (.one 6 (.one 0 (.one 4 (.one 7 (.one 11 (.one 12 (.done))))))))))))))))], jn := [(6, (7, 19, 40)), (10, (67, 62, 67))], lp := [(4, ⟨[0, 3, 6, 7, 8], [.s 3 0], [0, 3, 6, 7], [.s 3 0]⟩)], sh := [.z 5, .n] }
def An45 : Ann := { jn := [(3, (24, 18, 24)), (6, (11, 31, 49)), (8, (60, 54, 60))], sh := [.z 5, .n] }
def An48 : Ann := { jn := [(3, (34, 16, 34))], lp := [(6, ⟨[3, 6, 7, 8], [.s 3 0, .s 6 3], [6], [.s 6 3]⟩)], sh := [.z 3, .n] }
def An49 : Ann := { ak := [0], av := [(1, [24])] }
def An50 : Ann := { ord := [(1, [0, 1, 2, 3, 4, 6, 7, 9, 10, 11, 13, 14, 15, 17, 18, 19, 21, 22, 23, 25, 26, 27, 29, 30, 5, 8, 12, 16, 20, 24, 28, 31, 32])], eb := [(1, [5, 12, 16, 20, 24, 28])], sh := [.a [0, 8, 3, 3, 5, 4, 5, 4, 0]] }
def An51 : Ann := { jn := [(1, (48, 3, 48)), (3, (86, 49, 86)), (5, (2, 87, 93))] }
def An52 : Ann := { lp := [(3, ⟨[0, 3, 4], [], [3], []⟩)] }
def An53 : Ann := { nr := some [.r 0, .s 20 8], ak := [0], av := [(3, [24]), (5, [79])], lp := [(3, ⟨[0, 3, 4], [.s 0 0, .s 3 8], [0, 3], [.s 0 0, .s 3 8]⟩)], sh := [.z 8] }
def An54 : Ann := { ak := [0], av := [(1, [24, 49]), (2, [24]), (4, [16]), (6, [16]), (8, [16]), (10, [17]), (12, [16])] }
def An55 : Ann := { nr := some [.r 0, .s 26 5], ak := [0], av := [(3, [24]), (6, [81]), (7, [24])], lp := [(4, ⟨[0, 3, 4, 5], [.s 0 0, .s 3 5], [0, 3], [.s 0 0, .s 3 5]⟩)], sh := [.z 5] }
def An56 : Ann := { ot := [(1, .one 1 (.alt (.one 0 (.alt (.one 2 (.one 3 (.one 4 (.one 5 (.one 6 (.done)))))) (.one 3 (.alt (.one 2 (.one 4 (.one 5 (.one 6 (.done))))) (.one 4 (.one 2 (.one 5 (.one 6 (.done))))))))) (.one 3 (.alt (.one 0 (.alt (.one 2 (.one 4 (.one 5 (.one 6 (.done))))) (.one 4 (.one 2 (.one 5 (.one 6 (.done))))))) (.one 4 (.one 0 (.one 2 (.one 5 (.one 6 (.done))))))))))], sh := [.z 4, .n] }
def An57 : Ann := { nr := some [.r 0, .g 20 1 2], ak := [0], av := [(1, [82]), (3, [24]), (4, [24])], sh := [.a [0, 2, 0]] }
def An58 : Ann := { nr := some [.r 0, .s 36 2], ak := [0], av := [(1, [82]), (4, [24]), (5, [24]), (7, [16]), (9, [16])], sh := [.z 2] }
def An63 : Ann := { jn := [(5, (58, 16, 58)), (10, (84, 64, 84))], lp := [(2, ⟨[0, 3], [], [0], []⟩), (8, ⟨[0, 3, 4, 5], [.s 4 0], [0, 3], []⟩)], rt := ⟨[2], [], [], []⟩ }
def An64 : Ann := { lp := [(2, ⟨[0, 1, 5], [], [], []⟩)], rt := ⟨[4], [], [], []⟩ }
def An67 : Ann := { jn := [(5, (44, 13, 44))], lp := [(3, ⟨[0, 1, 5, 6], [], [0, 5], []⟩)] }
def An68 : Ann := { jn := [(4, (53, 11, 53)), (9, (77, 59, 77))], lp := [(2, ⟨[0, 3], [], [0], []⟩), (7, ⟨[0, 3, 4], [], [0, 3], []⟩)], rt := ⟨[2], [], [], []⟩ }
def An69 : Ann := { jn := [(1, (2, 3, 26))] }
def An70 : Ann := { jn := [(4, (22, 12, 22))], lp := [(2, ⟨[0, 1, 5], [], [], []⟩)], rt := ⟨[4], [], [], []⟩ }
def An71 : Ann := { ord := [(5, [0, 1, 2, 3, 4, 5, 6, 7, 8, 9, 10, 11, 13, 14, 15, 16, 17, 12, 18, 19, 20, 21])], eb := [(5, [18])], lp := [(3, ⟨[0, 3, 4], [.s 3 3], [3], [.s 3 3]⟩)], sh := [.z 3] }
def An72 : Ann := { jn := [(1, (6, 7, 15))] }
def An73 : Ann := { jn := [(4, (35, 10, 35))], lp := [(2, ⟨[0, 3], [], [0], []⟩)], rt := ⟨[2], [], [], []⟩ }
def An74 : Ann := { jn := [(4, (61, 10, 61))], lp := [(2, ⟨[0, 3], [], [0], []⟩)], rt := ⟨[2], [], [], []⟩ }
def An75 : Ann := { jn := [(3, (15, 7, 15)), (7, (67, 25, 67)), (10, (96, 73, 96))], lp := [(3, ⟨[0, 3, 4], [], [0], []⟩)], rt := ⟨[2], [], [], []⟩ }
def An76 : Ann := { jn := [(5, (58, 15, 58))], lp := [(2, ⟨[0, 3], [], [0], []⟩)], rt := ⟨[2], [], [], []⟩ }
def An77 : Ann := { ord := [(13, [0, 1, 2, 3, 4, 5, 6, 7, 8, 9, 10, 11, 14, 15, 12, 13, 16, 17, 18, 19, 20, 21, 22, 23, 24, 25, 26, 27, 28, 29])], jn := [(13, (77, 48, 77)), (18, (103, 85, 103))], lp := [(5, ⟨[1, 3, 4], [.s 1 0, .s 3 1], [1, 3], [.s 1 0, .s 3 1]⟩), (10, ⟨[1, 3, 5], [.s 1 0, .s 3 1], [1], [.s 1 0]⟩), (16, ⟨[1, 7], [.s 1 0], [], []⟩)], rt := ⟨[2], [], [], []⟩ }
def An78 : Ann := { ord := [(8, [0, 1, 2, 3, 4, 5, 6, 7, 8, 9, 10, 11, 12, 13, 14, 15, 16, 17, 18, 19, 20, 21, 22, 23, 24, 25, 26, 27, 28, 29, 30, 32, 33, 34, 35, 36, 38, 31, 37, 39, 40, 41, 42, 43, 44, 45, 46, 47])], jn := [(8, (77, 30, 77))], lp := [(4, ⟨[1, 3], [.s 1 0], [], []⟩)], rt := ⟨[2], [], [], []⟩ }
def An79 : Ann := { ak := [0], av := [(1, [24, 49])] }
def An80 : Ann := { ot := [(5, .one 1 (.alt (.one 0 (.alt (.one 2 (.one 3 (.one 4 (.one 5 (.one 6 (.done)))))) (.one 3 (.alt (.one 2 (.one 4 (.one 5 (.one 6 (.done))))) (.one 4 (.one 2 (.one 5 (.one 6 (.done))))))))) (.one 3 (.alt (.one 0 (.alt (.one 2 (.one 4 (.one 5 (.one 6 (.done))))) (.one 4 (.one 2 (.one 5 (.one 6 (.done))))))) (.one 4 (.one 0 (.one 2 (.one 5 (.one 6 (.done))))))))))], sh := [.z 5, .n] }
def An81 : Ann := { ak := [0], av := [(1, [16, 24])] }
def An82 : Ann := { nr := some [.r 0, .s 24 2], ak := [0], av := [(2, [24]), (5, [24])], lp := [(3, ⟨[0, 3, 4], [.s 0 0, .s 3 2], [0, 3], [.s 0 0, .s 3 2]⟩)], sh := [.z 2] }
def An88 : Ann := { jn := [(1, (2, 3, 21))] }
def An89 : Ann := { jn := [(4, (43, 10, 43))], lp := [(2, ⟨[0, 3], [], [0], []⟩)], rt := ⟨[2], [], [], []⟩ }
def An90 : Ann := {}
def An91 : Ann := { lp := [(3, ⟨[0, 1, 2, 7, 8], [], [7], []⟩)] }
def An92 : Ann := { jn := [(3, (16, 9, 16)), (6, (42, 28, 42))], lp := [(3, ⟨[0, 1, 5, 6], [.s 5 1], [5], [.s 5 1]⟩)], sh := [.z 1] }
def An93 : Ann := { lp := [(2, ⟨[0, 1, 5], [], [], []⟩)], rt := ⟨[4], [], [], []⟩ }
def An94 : Ann := { lp := [(2, ⟨[0, 1, 5], [], [], []⟩)], rt := ⟨[4], [], [], []⟩ }
def An95 : Ann := { jn := [(1, (2, 3, 26))] }
def An96 : Ann := { jn := [(1, (5, 6, 19)), (3, (19, 20, 30))] }
def An97 : Ann := { sh := [.z 2] }
def An98 : Ann := { ot := [(7, .one 1 (.one 2 (.one 3 (.one 8 (.alt (.one 0 (.alt (.one 4 (.one 5 (.one 6 (.one 7 (.one 9 (.one 10 (.done))))))) (.one 5 (.alt (.one 4 (.one 6 (.one 7 (.one 9 (.one 10 (.done)))))) (.one 6 (.one 4 (.one 7 (.one 9 (.one 10 (.done)))))))))) (.one 5 (.alt (.one 0 (.alt (.one 4 (.one 6 (.one 7 (.one 9 (.one 10 (.done)))))) (.one 6 (.one 4 (.one 7 (.one 9 (.one 10 (.done)))))))) (.one 6 (.one 0 (.one 4 (.one 7 (.one 9 (.one 10 (.done))))))))))))))], jn := [(2, (22, 9, 22)), (5, (39, 28, 39))], lp := [(2, ⟨[0, 3, 6], [.s 3 0], [0, 3, 6], [.s 3 0]⟩)], sh := [.z 2, .n] }
def An101 : Ann := { lp := [(3, ⟨[0, 3, 4], [], [3], []⟩)] }
def An102 : Ann := { ot := [(6, .one 1 (.one 2 (.one 3 (.one 5 (.one 8 (.one 9 (.one 10 (.alt (.one 0 (.alt (.one 4 (.one 6 (.one 7 (.one 11 (.one 12 (.done)))))) (.one 6 (.one 4 (.one 7 (.one 11 (.one 12 (.done)))))))) (.one 6 (.one 0 (.one 4 (.one 7 (.one 11 (.one 12 (.done)))))))))))))))], jn := [(2, (17, 6, 17)), (4, (31, 20, 31))], lp := [(2, ⟨[0, 1, 5], [], [0, 1, 5], []⟩)], sh := [.z 1] }
def An103 : Ann := {}
def An104 : Ann := { lp := [(2, ⟨[0, 1, 5], [], [], []⟩)], rt := ⟨[4], [], [], []⟩ }
def An105 : Ann := {}
def An106 : Ann := {}
noncomputable def T : Tld := { P := Tryz.prog, ann := [(3, An3), (4, An4), (5, An5), (6, An6), (7, An7), (8, An8), (9, An9), (10, An10), (11, An11), (12, An12), (13, An13), (14, An14), (15, An15), (16, An16), (17, An17), (18, An18), (19, An19), (20, An20), (21, An21), (22, An22), (23, An23), (24, An24), (26, An26), (28, An28), (29, An29), (30, An30), (32, An32), (36, An36), (37, An37), (38, An38), (39, An39), (40, An40), (41, An41), (42, An42), (44, An44), (45, An45), (48, An48), (49, An49), (50, An50), (51, An51), (52, An52), (53, An53), (54, An54), (55, An55), (56, An56), (57, An57), (58, An58), (63, An63), (64, An64), (67, An67), (68, An68), (69, An69), (70, An70), (71, An71), (72, An72), (73, An73), (74, An74), (75, An75), (76, An76), (77, An77), (78, An78), (79, An79), (80, An80), (81, An81), (82, An82), (88, An88), (89, An89), (90, An90), (91, An91), (92, An92), (93, An93), (94, An94), (95, An95), (96, An96), (97, An97), (98, An98), (101, An101), (102, An102), (103, An103), (104, An104), (105, An105), (106, An106)], xt := xt, st := fun _ => false, qt := fun _ => false, pz := [(13, [.z 1]), (14, [.z 2]), (50, [.a [0, 8, 3, 3, 5, 4, 5, 4, 0]])], vt := fun _ => false, mt := fun _ _ _ => none }
theorem TP : T.P = Tryz.prog := _root_.id rfl
theorem TZ : T.pz = [(13, [.z 1]), (14, [.z 2]), (50, [.a [0, 8, 3, 3, 5, 4, 5, 4, 0]])] := _root_.id rfl
theorem sk33 : decide ((0 : Int) ≤ 33) = true := _root_.id rfl
theorem sk47 : decide ((0 : Int) ≤ 47) = true := _root_.id rfl
def eY := aI evT <| aI encs <| aI @c_js <| aI @r_map_some <| @e_need_t
def eZ := aI evB <| aI evT <| aI tys <| aI encs <| aI TP <| aI TZ <| aI (@orc_p T) <| aI (@orc_l T) <| aI (@orc_a T) <| aI sk33 <| aI sk47 <| aI @e_need_t <| @orc_m T
theorem e_strconv_Itoa (n : Nat) (x : Int) : CP T (n + 1) 25 [.i .i64 x] = (strconv_Itoa x).map fun r => .s r := by rw [CP_x T n 25 _ (by kernel_rfl)]; rfl
theorem e_strings_Join (n : Nat) {R} {l : List (List UInt8)} (s : List UInt8) [H1 : EncL c_s R l] : CP T (n + 1) 27 [.imm 1 R, .s s] = (strings_Join l s).map fun r => .s r := by
  obtain ⟨rfl⟩ := H1
  rw [CP_x T n 27 _ (by kernel_rfl)]
  show (strsOf (l.map c_s)).bind _ = _
  rw [strsOf_map]; rfl
theorem e_cI : cI = c_i64 := _root_.id rfl
theorem ints_c (xs : List Int) : intsOf (xs.map c_i64) = some xs := s_ints xs
theorem st_15 : T.st 15 = false := by kernel_rfl
theorem qt_15 : T.qt 15 = false := by kernel_rfl
theorem wt_15 : T.wt 15 = true := by kernel_rfl
theorem vt_15 : T.vt 15 = false := by kernel_rfl
theorem st_16 : T.st 16 = false := by kernel_rfl
theorem qt_16 : T.qt 16 = false := by kernel_rfl
theorem wt_16 : T.wt 16 = true := by kernel_rfl
theorem vt_16 : T.vt 16 = false := by kernel_rfl
theorem st_17 : T.st 17 = false := by kernel_rfl
theorem qt_17 : T.qt 17 = false := by kernel_rfl
theorem wt_17 : T.wt 17 = true := by kernel_rfl
theorem vt_17 : T.vt 17 = false := by kernel_rfl
theorem st_24 : T.st 24 = false := by kernel_rfl
theorem qt_24 : T.qt 24 = false := by kernel_rfl
theorem wt_24 : T.wt 24 = true := by kernel_rfl
theorem vt_24 : T.vt 24 = false := by kernel_rfl
theorem st_26 : T.st 26 = false := by kernel_rfl
theorem qt_26 : T.qt 26 = false := by kernel_rfl
theorem wt_26 : T.wt 26 = true := by kernel_rfl
theorem vt_26 : T.vt 26 = false := by kernel_rfl
theorem st_28 : T.st 28 = false := by kernel_rfl
theorem qt_28 : T.qt 28 = false := by kernel_rfl
theorem wt_28 : T.wt 28 = true := by kernel_rfl
theorem vt_28 : T.vt 28 = false := by kernel_rfl
theorem st_29 : T.st 29 = false := by kernel_rfl
theorem qt_29 : T.qt 29 = false := by kernel_rfl
theorem wt_29 : T.wt 29 = true := by kernel_rfl
theorem vt_29 : T.vt 29 = false := by kernel_rfl
theorem st_30 : T.st 30 = false := by kernel_rfl
theorem qt_30 : T.qt 30 = false := by kernel_rfl
theorem wt_30 : T.wt 30 = true := by kernel_rfl
theorem vt_30 : T.vt 30 = false := by kernel_rfl
theorem st_32 : T.st 32 = false := by kernel_rfl
theorem qt_32 : T.qt 32 = false := by kernel_rfl
theorem wt_32 : T.wt 32 = true := by kernel_rfl
theorem vt_32 : T.vt 32 = false := by kernel_rfl
theorem st_36 : T.st 36 = false := by kernel_rfl
theorem qt_36 : T.qt 36 = false := by kernel_rfl
theorem wt_36 : T.wt 36 = true := by kernel_rfl
theorem vt_36 : T.vt 36 = false := by kernel_rfl
theorem st_38 : T.st 38 = false := by kernel_rfl
theorem qt_38 : T.qt 38 = false := by kernel_rfl
theorem wt_38 : T.wt 38 = true := by kernel_rfl
theorem vt_38 : T.vt 38 = false := by kernel_rfl
theorem st_39 : T.st 39 = false := by kernel_rfl
theorem qt_39 : T.qt 39 = false := by kernel_rfl
theorem wt_39 : T.wt 39 = true := by kernel_rfl
theorem vt_39 : T.vt 39 = false := by kernel_rfl
theorem st_40 : T.st 40 = false := by kernel_rfl
theorem qt_40 : T.qt 40 = false := by kernel_rfl
theorem wt_40 : T.wt 40 = true := by kernel_rfl
theorem vt_40 : T.vt 40 = false := by kernel_rfl
theorem st_41 : T.st 41 = false := by kernel_rfl
theorem qt_41 : T.qt 41 = false := by kernel_rfl
theorem wt_41 : T.wt 41 = true := by kernel_rfl
theorem vt_41 : T.vt 41 = false := by kernel_rfl
theorem st_42 : T.st 42 = false := by kernel_rfl
theorem qt_42 : T.qt 42 = false := by kernel_rfl
theorem wt_42 : T.wt 42 = true := by kernel_rfl
theorem vt_42 : T.vt 42 = false := by kernel_rfl
theorem st_49 : T.st 49 = false := by kernel_rfl
theorem qt_49 : T.qt 49 = false := by kernel_rfl
theorem wt_49 : T.wt 49 = true := by kernel_rfl
theorem vt_49 : T.vt 49 = false := by kernel_rfl
theorem st_53 : T.st 53 = false := by kernel_rfl
theorem qt_53 : T.qt 53 = false := by kernel_rfl
theorem wt_53 : T.wt 53 = true := by kernel_rfl
theorem vt_53 : T.vt 53 = false := by kernel_rfl
theorem st_54 : T.st 54 = false := by kernel_rfl
theorem qt_54 : T.qt 54 = false := by kernel_rfl
theorem wt_54 : T.wt 54 = true := by kernel_rfl
theorem vt_54 : T.vt 54 = false := by kernel_rfl
theorem st_55 : T.st 55 = false := by kernel_rfl
theorem qt_55 : T.qt 55 = false := by kernel_rfl
theorem wt_55 : T.wt 55 = true := by kernel_rfl
theorem vt_55 : T.vt 55 = false := by kernel_rfl
theorem st_57 : T.st 57 = false := by kernel_rfl
theorem qt_57 : T.qt 57 = false := by kernel_rfl
theorem wt_57 : T.wt 57 = true := by kernel_rfl
theorem vt_57 : T.vt 57 = false := by kernel_rfl
theorem st_58 : T.st 58 = false := by kernel_rfl
theorem qt_58 : T.qt 58 = false := by kernel_rfl
theorem wt_58 : T.wt 58 = true := by kernel_rfl
theorem vt_58 : T.vt 58 = false := by kernel_rfl
theorem st_79 : T.st 79 = false := by kernel_rfl
theorem qt_79 : T.qt 79 = false := by kernel_rfl
theorem wt_79 : T.wt 79 = true := by kernel_rfl
theorem vt_79 : T.vt 79 = false := by kernel_rfl
theorem st_81 : T.st 81 = false := by kernel_rfl
theorem qt_81 : T.qt 81 = false := by kernel_rfl
theorem wt_81 : T.wt 81 = true := by kernel_rfl
theorem vt_81 : T.vt 81 = false := by kernel_rfl
theorem st_82 : T.st 82 = false := by kernel_rfl
theorem qt_82 : T.qt 82 = false := by kernel_rfl
theorem wt_82 : T.wt 82 = true := by kernel_rfl
theorem vt_82 : T.vt 82 = false := by kernel_rfl
def srt := aI @e_cI <| aI @ints_c <| aI @orc_s <| aI @orc_q <| aI @orc_w <| aI @orc_v <| aI @st_15 <| aI @qt_15 <| aI @wt_15 <| aI @vt_15 <| aI @st_16 <| aI @qt_16 <| aI @wt_16 <| aI @vt_16 <| aI @st_17 <| aI @qt_17 <| aI @wt_17 <| aI @vt_17 <| aI @st_24 <| aI @qt_24 <| aI @wt_24 <| aI @vt_24 <| aI @st_26 <| aI @qt_26 <| aI @wt_26 <| aI @vt_26 <| aI @st_28 <| aI @qt_28 <| aI @wt_28 <| aI @vt_28 <| aI @st_29 <| aI @qt_29 <| aI @wt_29 <| aI @vt_29 <| aI @st_30 <| aI @qt_30 <| aI @wt_30 <| aI @vt_30 <| aI @st_32 <| aI @qt_32 <| aI @wt_32 <| aI @vt_32 <| aI @st_36 <| aI @qt_36 <| aI @wt_36 <| aI @vt_36 <| aI @st_38 <| aI @qt_38 <| aI @wt_38 <| aI @vt_38 <| aI @st_39 <| aI @qt_39 <| aI @wt_39 <| aI @vt_39 <| aI @st_40 <| aI @qt_40 <| aI @wt_40 <| aI @vt_40 <| aI @st_41 <| aI @qt_41 <| aI @wt_41 <| aI @vt_41 <| aI @st_42 <| aI @qt_42 <| aI @wt_42 <| aI @vt_42 <| aI @st_49 <| aI @qt_49 <| aI @wt_49 <| aI @vt_49 <| aI @st_53 <| aI @qt_53 <| aI @wt_53 <| aI @vt_53 <| aI @st_54 <| aI @qt_54 <| aI @wt_54 <| aI @vt_54 <| aI @st_55 <| aI @qt_55 <| aI @wt_55 <| aI @vt_55 <| aI @st_57 <| aI @qt_57 <| aI @wt_57 <| aI @vt_57 <| aI @st_58 <| aI @qt_58 <| aI @wt_58 <| aI @vt_58 <| aI @st_79 <| aI @qt_79 <| aI @wt_79 <| aI @vt_79 <| aI @st_81 <| aI @qt_81 <| aI @wt_81 <| aI @vt_81 <| aI @st_82 <| aI @qt_82 <| aI @wt_82 @vt_82
theorem Aa3 : T.at 3 = some An3 := by kernel_rfl
theorem Aa4 : T.at 4 = some An4 := by kernel_rfl
theorem Aa5 : T.at 5 = some An5 := by kernel_rfl
theorem Aa6 : T.at 6 = some An6 := by kernel_rfl
theorem Aa7 : T.at 7 = some An7 := by kernel_rfl
theorem Aa8 : T.at 8 = some An8 := by kernel_rfl
theorem Aa9 : T.at 9 = some An9 := by kernel_rfl
theorem Aa10 : T.at 10 = some An10 := by kernel_rfl
theorem Aa11 : T.at 11 = some An11 := by kernel_rfl
theorem Aa12 : T.at 12 = some An12 := by kernel_rfl
theorem Aa13 : T.at 13 = some An13 := by kernel_rfl
theorem Aa14 : T.at 14 = some An14 := by kernel_rfl
theorem Aa15 : T.at 15 = some An15 := by kernel_rfl
theorem Aa16 : T.at 16 = some An16 := by kernel_rfl
theorem Aa17 : T.at 17 = some An17 := by kernel_rfl
theorem Aa18 : T.at 18 = some An18 := by kernel_rfl
theorem Aa19 : T.at 19 = some An19 := by kernel_rfl
theorem Aa20 : T.at 20 = some An20 := by kernel_rfl
theorem Aa21 : T.at 21 = some An21 := by kernel_rfl
theorem Aa22 : T.at 22 = some An22 := by kernel_rfl
theorem Aa23 : T.at 23 = some An23 := by kernel_rfl
theorem Aa24 : T.at 24 = some An24 := by kernel_rfl
theorem Aa26 : T.at 26 = some An26 := by kernel_rfl
theorem Aa28 : T.at 28 = some An28 := by kernel_rfl
theorem Aa29 : T.at 29 = some An29 := by kernel_rfl
theorem Aa30 : T.at 30 = some An30 := by kernel_rfl
theorem Aa32 : T.at 32 = some An32 := by kernel_rfl
theorem Aa36 : T.at 36 = some An36 := by kernel_rfl
theorem Aa37 : T.at 37 = some An37 := by kernel_rfl
theorem Aa38 : T.at 38 = some An38 := by kernel_rfl
theorem Aa39 : T.at 39 = some An39 := by kernel_rfl
theorem Aa40 : T.at 40 = some An40 := by kernel_rfl
theorem Aa41 : T.at 41 = some An41 := by kernel_rfl
theorem Aa42 : T.at 42 = some An42 := by kernel_rfl
theorem Aa44 : T.at 44 = some An44 := by kernel_rfl
theorem Aa45 : T.at 45 = some An45 := by kernel_rfl
theorem Aa48 : T.at 48 = some An48 := by kernel_rfl
theorem Aa49 : T.at 49 = some An49 := by kernel_rfl
theorem Aa50 : T.at 50 = some An50 := by kernel_rfl
theorem Aa51 : T.at 51 = some An51 := by kernel_rfl
theorem Aa52 : T.at 52 = some An52 := by kernel_rfl
theorem Aa53 : T.at 53 = some An53 := by kernel_rfl
theorem Aa54 : T.at 54 = some An54 := by kernel_rfl
theorem Aa55 : T.at 55 = some An55 := by kernel_rfl
theorem Aa56 : T.at 56 = some An56 := by kernel_rfl
theorem Aa57 : T.at 57 = some An57 := by kernel_rfl
theorem Aa58 : T.at 58 = some An58 := by kernel_rfl
theorem Aa63 : T.at 63 = some An63 := by kernel_rfl
theorem Aa64 : T.at 64 = some An64 := by kernel_rfl
theorem Aa67 : T.at 67 = some An67 := by kernel_rfl
theorem Aa68 : T.at 68 = some An68 := by kernel_rfl
theorem Aa69 : T.at 69 = some An69 := by kernel_rfl
theorem Aa70 : T.at 70 = some An70 := by kernel_rfl
theorem Aa71 : T.at 71 = some An71 := by kernel_rfl
theorem Aa72 : T.at 72 = some An72 := by kernel_rfl
theorem Aa73 : T.at 73 = some An73 := by kernel_rfl
theorem Aa74 : T.at 74 = some An74 := by kernel_rfl
theorem Aa75 : T.at 75 = some An75 := by kernel_rfl
theorem Aa76 : T.at 76 = some An76 := by kernel_rfl
theorem Aa77 : T.at 77 = some An77 := by kernel_rfl
theorem Aa78 : T.at 78 = some An78 := by kernel_rfl
theorem Aa79 : T.at 79 = some An79 := by kernel_rfl
theorem Aa80 : T.at 80 = some An80 := by kernel_rfl
theorem Aa81 : T.at 81 = some An81 := by kernel_rfl
theorem Aa82 : T.at 82 = some An82 := by kernel_rfl
theorem Aa88 : T.at 88 = some An88 := by kernel_rfl
theorem Aa89 : T.at 89 = some An89 := by kernel_rfl
theorem Aa90 : T.at 90 = some An90 := by kernel_rfl
theorem Aa91 : T.at 91 = some An91 := by kernel_rfl
theorem Aa92 : T.at 92 = some An92 := by kernel_rfl
theorem Aa93 : T.at 93 = some An93 := by kernel_rfl
theorem Aa94 : T.at 94 = some An94 := by kernel_rfl
theorem Aa95 : T.at 95 = some An95 := by kernel_rfl
theorem Aa96 : T.at 96 = some An96 := by kernel_rfl
theorem Aa97 : T.at 97 = some An97 := by kernel_rfl
theorem Aa98 : T.at 98 = some An98 := by kernel_rfl
theorem Aa101 : T.at 101 = some An101 := by kernel_rfl
theorem Aa102 : T.at 102 = some An102 := by kernel_rfl
theorem Aa103 : T.at 103 = some An103 := by kernel_rfl
theorem Aa104 : T.at 104 = some An104 := by kernel_rfl
theorem Aa105 : T.at 105 = some An105 := by kernel_rfl
theorem Aa106 : T.at 106 = some An106 := by kernel_rfl
end Go.Proofs.YtkbilciipmijjaaGreatDoor
