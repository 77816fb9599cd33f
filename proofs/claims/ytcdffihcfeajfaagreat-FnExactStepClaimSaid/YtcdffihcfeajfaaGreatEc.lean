/- Types and values told as the machine has them. No condition. -/
import Derived.Test.YtcdffihcfeajfaaGreatEvB
import Derived.Test.YtcdffihcfeajfaaGreatFn
import Derived.Test.YtcdffihcfeajfaaGreatProg
import Derived.KernelRfl
namespace Go.Proofs.YtcdffihcfeajfaaGreat
open Go Go.Proofs Go.Proofs.YtcdffihcfeajfaaGreat.Am
set_option maxHeartbeats 4000000
set_option linter.unusedVariables false
set_option linter.unusedSimpArgs false
set_option linter.defProp false
set_option maxRecDepth 100000
def c_i64 (x : Int) : List AV := [.i .i64 x]
theorem e_c_i64 (x : Int) : c_i64 x = [.i .i64 x] := _root_.id rfl
instance (x : Int) : EncR c_i64 [.i .i64 x] x := ⟨rfl⟩
theorem ld_i64 (xs : List Int) : lendRows (xs.map c_i64) = xs.map c_i64 := t_lend (fun x => by simp only [e_c_i64, lendRow, lendc]) xs
theorem cl_i64 (xs : List Int) : cleanRows (xs.map c_i64) = true := t_clean (fun x => by simp only [e_c_i64, cleans, AV.clean, Bool.and_self]) xs
theorem ib_i64 {R : List (List AV)} {xs : List Int} (i : Int) [h : EncL c_i64 R xs] : inb R i = inb xs i := by rw [h.eq, t_inb]
theorem ro_i64 {R : List (List AV)} {xs : List Int} (i : Int) [h : EncL c_i64 R xs] (hi : inb xs i = true) : rowOf R i.toNat = c_i64 (gt xs i) := by rw [h.eq, t_row xs i hi]
def c_u8 (x : Int) : List AV := [.i .u8 x]
theorem e_c_u8 (x : Int) : c_u8 x = [.i .u8 x] := _root_.id rfl
instance (x : Int) : EncR c_u8 [.i .u8 x] x := ⟨rfl⟩
theorem ld_u8 (xs : List Int) : lendRows (xs.map c_u8) = xs.map c_u8 := t_lend (fun x => by simp only [e_c_u8, lendRow, lendc]) xs
theorem cl_u8 (xs : List Int) : cleanRows (xs.map c_u8) = true := t_clean (fun x => by simp only [e_c_u8, cleans, AV.clean, Bool.and_self]) xs
theorem ib_u8 {R : List (List AV)} {xs : List Int} (i : Int) [h : EncL c_u8 R xs] : inb R i = inb xs i := by rw [h.eq, t_inb]
theorem ro_u8 {R : List (List AV)} {xs : List Int} (i : Int) [h : EncL c_u8 R xs] (hi : inb xs i = true) : rowOf R i.toNat = c_u8 (gt xs i) := by rw [h.eq, t_row xs i hi]
def c_b (x : Bool) : List AV := [.b x]
theorem e_c_b (x : Bool) : c_b x = [.b x] := _root_.id rfl
instance (x : Bool) : EncR c_b [.b x] x := ⟨rfl⟩
theorem ld_b (xs : List Bool) : lendRows (xs.map c_b) = xs.map c_b := t_lend (fun x => by simp only [e_c_b, lendRow, lendc]) xs
theorem cl_b (xs : List Bool) : cleanRows (xs.map c_b) = true := t_clean (fun x => by simp only [e_c_b, cleans, AV.clean, Bool.and_self]) xs
theorem ib_b {R : List (List AV)} {xs : List Bool} (i : Int) [h : EncL c_b R xs] : inb R i = inb xs i := by rw [h.eq, t_inb]
theorem ro_b {R : List (List AV)} {xs : List Bool} (i : Int) [h : EncL c_b R xs] (hi : inb xs i = true) : rowOf R i.toNat = c_b (gt xs i) := by rw [h.eq, t_row xs i hi]
def c_s (x : List UInt8) : List AV := [.s x]
theorem e_c_s (x : List UInt8) : c_s x = [.s x] := _root_.id rfl
instance (x : List UInt8) : EncR c_s [.s x] x := ⟨rfl⟩
theorem ld_s (xs : List (List UInt8)) : lendRows (xs.map c_s) = xs.map c_s := t_lend (fun x => by simp only [e_c_s, lendRow, lendc]) xs
theorem cl_s (xs : List (List UInt8)) : cleanRows (xs.map c_s) = true := t_clean (fun x => by simp only [e_c_s, cleans, AV.clean, Bool.and_self]) xs
theorem ib_s {R : List (List AV)} {xs : List (List UInt8)} (i : Int) [h : EncL c_s R xs] : inb R i = inb xs i := by rw [h.eq, t_inb]
theorem ro_s {R : List (List AV)} {xs : List (List UInt8)} (i : Int) [h : EncL c_s R xs] (hi : inb xs i = true) : rowOf R i.toNat = c_s (gt xs i) := by rw [h.eq, t_row xs i hi]
def cClaim (x : Claim) : List AV := [.i .i64 x.Id, .i .i64 x.Who, .i .i64 x.Thing, .i .i64 x.At, .i .i64 x.State]
theorem e_cClaim (x : Claim) : cClaim x = [.i .i64 x.Id, .i .i64 x.Who, .i .i64 x.Thing, .i .i64 x.At, .i .i64 x.State] := _root_.id rfl
instance (yxId : Int) (yxWho : Int) (yxThing : Int) (yxAt : Int) (yxState : Int)  : EncR cClaim [.i .i64 yxId, .i .i64 yxWho, .i .i64 yxThing, .i .i64 yxAt, .i .i64 yxState] (⟨yxId, yxWho, yxThing, yxAt, yxState⟩ : Claim) := ⟨by rfl⟩
theorem ld_Claim (xs : List Claim) : lendRows (xs.map cClaim) = xs.map cClaim := t_lend (fun x => by simp only [e_cClaim, lendRow, lendc]) xs
theorem cl_Claim (xs : List Claim) : cleanRows (xs.map cClaim) = true := t_clean (fun x => by simp only [e_cClaim, cleans, AV.clean, Bool.and_self]) xs
theorem et_Claim (x : Claim) : (⟨x.Id, x.Who, x.Thing, x.At, x.State⟩ : Claim) = x := _root_.id rfl
def cTrial (x : Trial) : List AV := [.i .i64 x.Claim, .i .i64 x.Asked, .i .i64 x.Right, .i .i64 x.Wrong]
theorem e_cTrial (x : Trial) : cTrial x = [.i .i64 x.Claim, .i .i64 x.Asked, .i .i64 x.Right, .i .i64 x.Wrong] := _root_.id rfl
instance (yxClaim : Int) (yxAsked : Int) (yxRight : Int) (yxWrong : Int)  : EncR cTrial [.i .i64 yxClaim, .i .i64 yxAsked, .i .i64 yxRight, .i .i64 yxWrong] (⟨yxClaim, yxAsked, yxRight, yxWrong⟩ : Trial) := ⟨by rfl⟩
theorem ld_Trial (xs : List Trial) : lendRows (xs.map cTrial) = xs.map cTrial := t_lend (fun x => by simp only [e_cTrial, lendRow, lendc]) xs
theorem cl_Trial (xs : List Trial) : cleanRows (xs.map cTrial) = true := t_clean (fun x => by simp only [e_cTrial, cleans, AV.clean, Bool.and_self]) xs
theorem et_Trial (x : Trial) : (⟨x.Claim, x.Asked, x.Right, x.Wrong⟩ : Trial) = x := _root_.id rfl
def cThing (x : Thing) : List AV := [.i .i64 x.Id, .i .i64 x.Kind, .i .i64 x.Colour, .i .i64 x.Size, .i .i64 x.Worth]
theorem e_cThing (x : Thing) : cThing x = [.i .i64 x.Id, .i .i64 x.Kind, .i .i64 x.Colour, .i .i64 x.Size, .i .i64 x.Worth] := _root_.id rfl
instance (yxId : Int) (yxKind : Int) (yxColour : Int) (yxSize : Int) (yxWorth : Int)  : EncR cThing [.i .i64 yxId, .i .i64 yxKind, .i .i64 yxColour, .i .i64 yxSize, .i .i64 yxWorth] (⟨yxId, yxKind, yxColour, yxSize, yxWorth⟩ : Thing) := ⟨by rfl⟩
theorem ld_Thing (xs : List Thing) : lendRows (xs.map cThing) = xs.map cThing := t_lend (fun x => by simp only [e_cThing, lendRow, lendc]) xs
theorem cl_Thing (xs : List Thing) : cleanRows (xs.map cThing) = true := t_clean (fun x => by simp only [e_cThing, cleans, AV.clean, Bool.and_self]) xs
theorem et_Thing (x : Thing) : (⟨x.Id, x.Kind, x.Colour, x.Size, x.Worth⟩ : Thing) = x := _root_.id rfl
def cFind (x : Find) : List AV := [.i .i64 x.Thing.Id, .i .i64 x.Thing.Kind, .i .i64 x.Thing.Colour, .i .i64 x.Thing.Size, .i .i64 x.Thing.Worth, .i .i64 x.Place, .i .i64 x.At, .i .i64 x.Finder]
theorem e_cFind (x : Find) : cFind x = [.i .i64 x.Thing.Id, .i .i64 x.Thing.Kind, .i .i64 x.Thing.Colour, .i .i64 x.Thing.Size, .i .i64 x.Thing.Worth, .i .i64 x.Place, .i .i64 x.At, .i .i64 x.Finder] := _root_.id rfl
instance (yxThingxId : Int) (yxThingxKind : Int) (yxThingxColour : Int) (yxThingxSize : Int) (yxThingxWorth : Int) (yxPlace : Int) (yxAt : Int) (yxFinder : Int)  : EncR cFind [.i .i64 yxThingxId, .i .i64 yxThingxKind, .i .i64 yxThingxColour, .i .i64 yxThingxSize, .i .i64 yxThingxWorth, .i .i64 yxPlace, .i .i64 yxAt, .i .i64 yxFinder] (⟨⟨yxThingxId, yxThingxKind, yxThingxColour, yxThingxSize, yxThingxWorth⟩, yxPlace, yxAt, yxFinder⟩ : Find) := ⟨by rfl⟩
theorem ld_Find (xs : List Find) : lendRows (xs.map cFind) = xs.map cFind := t_lend (fun x => by simp only [e_cFind, lendRow, lendc]) xs
theorem cl_Find (xs : List Find) : cleanRows (xs.map cFind) = true := t_clean (fun x => by simp only [e_cFind, cleans, AV.clean, Bool.and_self]) xs
theorem et_Find (x : Find) : (⟨x.Thing, x.Place, x.At, x.Finder⟩ : Find) = x := _root_.id rfl
def cMark (x : Mark) : List AV := [.i .i64 x.Question, .i .i64 x.Answer]
theorem e_cMark (x : Mark) : cMark x = [.i .i64 x.Question, .i .i64 x.Answer] := _root_.id rfl
instance (yxQuestion : Int) (yxAnswer : Int)  : EncR cMark [.i .i64 yxQuestion, .i .i64 yxAnswer] (⟨yxQuestion, yxAnswer⟩ : Mark) := ⟨by rfl⟩
theorem ld_Mark (xs : List Mark) : lendRows (xs.map cMark) = xs.map cMark := t_lend (fun x => by simp only [e_cMark, lendRow, lendc]) xs
theorem cl_Mark (xs : List Mark) : cleanRows (xs.map cMark) = true := t_clean (fun x => by simp only [e_cMark, cleans, AV.clean, Bool.and_self]) xs
theorem et_Mark (x : Mark) : (⟨x.Question, x.Answer⟩ : Mark) = x := _root_.id rfl
def cSecret (x : Secret) : List AV := [.i .i64 x.Thing, .imm 2 (x.Marks.map cMark), .i .i64 x.Salt]
theorem e_cSecret (x : Secret) : cSecret x = [.i .i64 x.Thing, .imm 2 (x.Marks.map cMark), .i .i64 x.Salt] := _root_.id rfl
instance (yxThing : Int) {R1} {yxMarks : List Mark} (yxSalt : Int) [H1 : EncL cMark R1 yxMarks] : EncR cSecret [.i .i64 yxThing, .imm 2 R1, .i .i64 yxSalt] (⟨yxThing, yxMarks, yxSalt⟩ : Secret) := ⟨by obtain ⟨rfl⟩ := H1; rfl⟩
def cSecretO (x : Secret) : List AV := [.i .i64 x.Thing, .own 2 (x.Marks.map cMark), .i .i64 x.Salt]
theorem e_cSecretO (x : Secret) : cSecretO x = [.i .i64 x.Thing, .own 2 (x.Marks.map cMark), .i .i64 x.Salt] := _root_.id rfl
instance (yxThing : Int) {R1} {yxMarks : List Mark} (yxSalt : Int) [H1 : EncL cMark R1 yxMarks] : EncR cSecretO [.i .i64 yxThing, .own 2 R1, .i .i64 yxSalt] (⟨yxThing, yxMarks, yxSalt⟩ : Secret) := ⟨by obtain ⟨rfl⟩ := H1; rfl⟩
theorem ld_Secret (xs : List Secret) : lendRows (xs.map cSecretO) = xs.map cSecret := t_lend (fun x => by simp only [e_cSecretO, e_cSecret, lendRow, lendc, ld_Mark]) xs
theorem cl_Secret (xs : List Secret) : cleanRows (xs.map cSecretO) = true := t_clean (fun x => by simp only [e_cSecretO, cleans, AV.clean, Bool.and_self, cl_Mark]) xs
theorem et_Secret (x : Secret) : (⟨x.Thing, x.Marks, x.Salt⟩ : Secret) = x := _root_.id rfl
def cSlot (x : Slot) : List AV := [.i .i64 x.Id, .i .i64 x.Size, .i .i64 x.Thing]
theorem e_cSlot (x : Slot) : cSlot x = [.i .i64 x.Id, .i .i64 x.Size, .i .i64 x.Thing] := _root_.id rfl
instance (yxId : Int) (yxSize : Int) (yxThing : Int)  : EncR cSlot [.i .i64 yxId, .i .i64 yxSize, .i .i64 yxThing] (⟨yxId, yxSize, yxThing⟩ : Slot) := ⟨by rfl⟩
theorem ld_Slot (xs : List Slot) : lendRows (xs.map cSlot) = xs.map cSlot := t_lend (fun x => by simp only [e_cSlot, lendRow, lendc]) xs
theorem cl_Slot (xs : List Slot) : cleanRows (xs.map cSlot) = true := t_clean (fun x => by simp only [e_cSlot, cleans, AV.clean, Bool.and_self]) xs
theorem et_Slot (x : Slot) : (⟨x.Id, x.Size, x.Thing⟩ : Slot) = x := _root_.id rfl
def cHand (x : Hand) : List AV := [.i .i64 x.Thing, .i .i64 x.Holder, .i .i64 x.Who, .i .i64 x.At, .i .i64 x.Seal]
theorem e_cHand (x : Hand) : cHand x = [.i .i64 x.Thing, .i .i64 x.Holder, .i .i64 x.Who, .i .i64 x.At, .i .i64 x.Seal] := _root_.id rfl
instance (yxThing : Int) (yxHolder : Int) (yxWho : Int) (yxAt : Int) (yxSeal : Int)  : EncR cHand [.i .i64 yxThing, .i .i64 yxHolder, .i .i64 yxWho, .i .i64 yxAt, .i .i64 yxSeal] (⟨yxThing, yxHolder, yxWho, yxAt, yxSeal⟩ : Hand) := ⟨by rfl⟩
theorem ld_Hand (xs : List Hand) : lendRows (xs.map cHand) = xs.map cHand := t_lend (fun x => by simp only [e_cHand, lendRow, lendc]) xs
theorem cl_Hand (xs : List Hand) : cleanRows (xs.map cHand) = true := t_clean (fun x => by simp only [e_cHand, cleans, AV.clean, Bool.and_self]) xs
theorem et_Hand (x : Hand) : (⟨x.Thing, x.Holder, x.Who, x.At, x.Seal⟩ : Hand) = x := _root_.id rfl
def cEntry (x : Entry) : List AV := [.i .i64 x.From, .i .i64 x.To, .i .i64 x.Cents, .i .i64 x.At]
theorem e_cEntry (x : Entry) : cEntry x = [.i .i64 x.From, .i .i64 x.To, .i .i64 x.Cents, .i .i64 x.At] := _root_.id rfl
instance (yxFrom : Int) (yxTo : Int) (yxCents : Int) (yxAt : Int)  : EncR cEntry [.i .i64 yxFrom, .i .i64 yxTo, .i .i64 yxCents, .i .i64 yxAt] (⟨yxFrom, yxTo, yxCents, yxAt⟩ : Entry) := ⟨by rfl⟩
theorem ld_Entry (xs : List Entry) : lendRows (xs.map cEntry) = xs.map cEntry := t_lend (fun x => by simp only [e_cEntry, lendRow, lendc]) xs
theorem cl_Entry (xs : List Entry) : cleanRows (xs.map cEntry) = true := t_clean (fun x => by simp only [e_cEntry, cleans, AV.clean, Bool.and_self]) xs
theorem et_Entry (x : Entry) : (⟨x.From, x.To, x.Cents, x.At⟩ : Entry) = x := _root_.id rfl
def cHouse (x : House) : List AV := [.i .i64 x.No, .imm 8 (x.Finds.map cFind), .imm 3 (x.Secrets.map cSecret), .imm 3 (x.Slots.map cSlot), .imm 5 (x.Claims.map cClaim), .imm 4 (x.Trials.map cTrial), .imm 5 (x.Chain.map cHand), .imm 4 (x.Book.map cEntry), .i .i64 x.Now]
theorem e_cHouse (x : House) : cHouse x = [.i .i64 x.No, .imm 8 (x.Finds.map cFind), .imm 3 (x.Secrets.map cSecret), .imm 3 (x.Slots.map cSlot), .imm 5 (x.Claims.map cClaim), .imm 4 (x.Trials.map cTrial), .imm 5 (x.Chain.map cHand), .imm 4 (x.Book.map cEntry), .i .i64 x.Now] := _root_.id rfl
instance (yxNo : Int) {R1} {yxFinds : List Find} {R2} {yxSecrets : List Secret} {R3} {yxSlots : List Slot} {R4} {yxClaims : List Claim} {R5} {yxTrials : List Trial} {R6} {yxChain : List Hand} {R7} {yxBook : List Entry} (yxNow : Int) [H1 : EncL cFind R1 yxFinds] [H2 : EncL cSecret R2 yxSecrets] [H3 : EncL cSlot R3 yxSlots] [H4 : EncL cClaim R4 yxClaims] [H5 : EncL cTrial R5 yxTrials] [H6 : EncL cHand R6 yxChain] [H7 : EncL cEntry R7 yxBook] : EncR cHouse [.i .i64 yxNo, .imm 8 R1, .imm 3 R2, .imm 3 R3, .imm 5 R4, .imm 4 R5, .imm 5 R6, .imm 4 R7, .i .i64 yxNow] (⟨yxNo, yxFinds, yxSecrets, yxSlots, yxClaims, yxTrials, yxChain, yxBook, yxNow⟩ : House) := ⟨by obtain ⟨rfl⟩ := H1; obtain ⟨rfl⟩ := H2; obtain ⟨rfl⟩ := H3; obtain ⟨rfl⟩ := H4; obtain ⟨rfl⟩ := H5; obtain ⟨rfl⟩ := H6; obtain ⟨rfl⟩ := H7; rfl⟩
def cHouseO (x : House) : List AV := [.i .i64 x.No, .own 8 (x.Finds.map cFind), .own 3 (x.Secrets.map cSecretO), .own 3 (x.Slots.map cSlot), .own 5 (x.Claims.map cClaim), .own 4 (x.Trials.map cTrial), .own 5 (x.Chain.map cHand), .own 4 (x.Book.map cEntry), .i .i64 x.Now]
theorem e_cHouseO (x : House) : cHouseO x = [.i .i64 x.No, .own 8 (x.Finds.map cFind), .own 3 (x.Secrets.map cSecretO), .own 3 (x.Slots.map cSlot), .own 5 (x.Claims.map cClaim), .own 4 (x.Trials.map cTrial), .own 5 (x.Chain.map cHand), .own 4 (x.Book.map cEntry), .i .i64 x.Now] := _root_.id rfl
instance (yxNo : Int) {R1} {yxFinds : List Find} {R2} {yxSecrets : List Secret} {R3} {yxSlots : List Slot} {R4} {yxClaims : List Claim} {R5} {yxTrials : List Trial} {R6} {yxChain : List Hand} {R7} {yxBook : List Entry} (yxNow : Int) [H1 : EncL cFind R1 yxFinds] [H2 : EncL cSecretO R2 yxSecrets] [H3 : EncL cSlot R3 yxSlots] [H4 : EncL cClaim R4 yxClaims] [H5 : EncL cTrial R5 yxTrials] [H6 : EncL cHand R6 yxChain] [H7 : EncL cEntry R7 yxBook] : EncR cHouseO [.i .i64 yxNo, .own 8 R1, .own 3 R2, .own 3 R3, .own 5 R4, .own 4 R5, .own 5 R6, .own 4 R7, .i .i64 yxNow] (⟨yxNo, yxFinds, yxSecrets, yxSlots, yxClaims, yxTrials, yxChain, yxBook, yxNow⟩ : House) := ⟨by obtain ⟨rfl⟩ := H1; obtain ⟨rfl⟩ := H2; obtain ⟨rfl⟩ := H3; obtain ⟨rfl⟩ := H4; obtain ⟨rfl⟩ := H5; obtain ⟨rfl⟩ := H6; obtain ⟨rfl⟩ := H7; rfl⟩
theorem ld_House (xs : List House) : lendRows (xs.map cHouseO) = xs.map cHouse := t_lend (fun x => by simp only [e_cHouseO, e_cHouse, lendRow, lendc, ld_Claim, ld_Entry, ld_Find, ld_Hand, ld_Secret, ld_Slot, ld_Trial]) xs
theorem cl_House (xs : List House) : cleanRows (xs.map cHouseO) = true := t_clean (fun x => by simp only [e_cHouseO, cleans, AV.clean, Bool.and_self, cl_Claim, cl_Entry, cl_Find, cl_Hand, cl_Secret, cl_Slot, cl_Trial]) xs
theorem et_House (x : House) : (⟨x.No, x.Finds, x.Secrets, x.Slots, x.Claims, x.Trials, x.Chain, x.Book, x.Now⟩ : House) = x := _root_.id rfl
def encs := And.intro @e_c_i64 <| And.intro @ld_i64 <| And.intro @cl_i64 <| And.intro @ib_i64 <| And.intro @ro_i64 <| And.intro @e_c_u8 <| And.intro @ld_u8 <| And.intro @cl_u8 <| And.intro @ib_u8 <| And.intro @ro_u8 <| And.intro @e_c_b <| And.intro @ld_b <| And.intro @cl_b <| And.intro @ib_b <| And.intro @ro_b <| And.intro @e_c_s <| And.intro @ld_s <| And.intro @cl_s <| And.intro @ib_s <| And.intro @ro_s <| And.intro @e_cClaim <| And.intro @ld_Claim <| And.intro @cl_Claim <| And.intro @et_Claim <| And.intro @e_cTrial <| And.intro @ld_Trial <| And.intro @cl_Trial <| And.intro @et_Trial <| And.intro @e_cThing <| And.intro @ld_Thing <| And.intro @cl_Thing <| And.intro @et_Thing <| And.intro @e_cFind <| And.intro @ld_Find <| And.intro @cl_Find <| And.intro @et_Find <| And.intro @e_cMark <| And.intro @ld_Mark <| And.intro @cl_Mark <| And.intro @et_Mark <| And.intro @e_cSecret <| And.intro @ld_Secret <| And.intro @cl_Secret <| And.intro @et_Secret <| And.intro @e_cSecretO <| And.intro @e_cSlot <| And.intro @ld_Slot <| And.intro @cl_Slot <| And.intro @et_Slot <| And.intro @e_cHand <| And.intro @ld_Hand <| And.intro @cl_Hand <| And.intro @et_Hand <| And.intro @e_cEntry <| And.intro @ld_Entry <| And.intro @cl_Entry <| And.intro @et_Entry <| And.intro @e_cHouse <| And.intro @ld_House <| And.intro @cl_House <| And.intro @et_House @e_cHouseO
theorem ty0 : flT Tryz.prog 160 = false := by kernel_rfl
theorem ty1 : isSlT Tryz.prog 24 = true := by kernel_rfl
theorem ty2 : isSlT Tryz.prog 26 = true := by kernel_rfl
theorem ty3 : isSlT Tryz.prog 27 = true := by kernel_rfl
theorem ty4 : isSlT Tryz.prog 28 = true := by kernel_rfl
theorem ty5 : isSlT Tryz.prog 29 = true := by kernel_rfl
theorem ty6 : isSlT Tryz.prog 30 = true := by kernel_rfl
theorem ty7 : isSlT Tryz.prog 68 = true := by kernel_rfl
theorem ty8 : slz Tryz.prog 9 160 = [0, 2, 0] := by kernel_rfl
theorem ty9 : slzE Tryz.prog 237 = [0] := by kernel_rfl
theorem ty10 : slzE Tryz.prog 24 = [0, 0, 0, 0, 0, 0, 0, 0] := by kernel_rfl
theorem ty11 : slzE Tryz.prog 25 = [0, 2, 0] := by kernel_rfl
theorem ty12 : slzE Tryz.prog 26 = [0, 0, 0] := by kernel_rfl
theorem ty13 : slzE Tryz.prog 27 = [0, 0, 0, 0, 0] := by kernel_rfl
theorem ty14 : slzE Tryz.prog 28 = [0, 0, 0, 0] := by kernel_rfl
theorem ty15 : slzE Tryz.prog 29 = [0, 0, 0, 0, 0] := by kernel_rfl
theorem ty16 : slzE Tryz.prog 30 = [0, 0, 0, 0] := by kernel_rfl
theorem ty17 : slzE Tryz.prog 68 = [0, 0] := by kernel_rfl
theorem ty18 : tb Tryz.prog 103 = some 24 := by kernel_rfl
theorem ty19 : tb Tryz.prog 136 = some 40 := by kernel_rfl
theorem ty20 : tb Tryz.prog 139 = some 32 := by kernel_rfl
theorem ty21 : tb Tryz.prog 153 = some 32 := by kernel_rfl
theorem ty22 : tb Tryz.prog 160 = some 40 := by kernel_rfl
theorem ty23 : tb Tryz.prog 166 = some 40 := by kernel_rfl
theorem ty24 : tb Tryz.prog 169 = some 16 := by kernel_rfl
theorem ty25 : tb Tryz.prog 3 = some 8 := by kernel_rfl
theorem ty26 : tb Tryz.prog 66 = some 64 := by kernel_rfl
theorem ty27 : tbd Tryz.prog 136 = .st [.i .i64 0, .i .i64 0, .i .i64 0, .i .i64 0, .i .i64 0] [(0, 1), (1, 1), (2, 1), (3, 1), (4, 1)] := by kernel_rfl
theorem ty28 : tbd Tryz.prog 139 = .st [.i .i64 0, .i .i64 0, .i .i64 0, .i .i64 0] [(0, 1), (1, 1), (2, 1), (3, 1)] := by kernel_rfl
theorem ty29 : tbd Tryz.prog 160 = .st [.i .i64 0, .nil, .i .i64 0] [(0, 1), (1, 1), (2, 1)] := by kernel_rfl
theorem ty30 : tbd Tryz.prog 32 = .st [.i .i64 0, .nil, .nil, .nil, .nil, .nil, .nil, .nil, .i .i64 0] [(0, 1), (1, 1), (2, 1), (3, 1), (4, 1), (5, 1), (6, 1), (7, 1), (8, 1)] := by kernel_rfl
theorem ty31 : teqP Tryz.prog 4 = some [.t] := by kernel_rfl
theorem ty32 : tfo Tryz.prog 103 0 = some (0, .one) := by kernel_rfl
theorem ty33 : tfo Tryz.prog 103 1 = some (1, .one) := by kernel_rfl
theorem ty34 : tfo Tryz.prog 103 2 = some (2, .one) := by kernel_rfl
theorem ty35 : tfo Tryz.prog 105 0 = some (0, .one) := by kernel_rfl
theorem ty36 : tfo Tryz.prog 105 1 = some (1, .one) := by kernel_rfl
theorem ty37 : tfo Tryz.prog 105 2 = some (2, .one) := by kernel_rfl
theorem ty38 : tfo Tryz.prog 136 0 = some (0, .one) := by kernel_rfl
theorem ty39 : tfo Tryz.prog 136 1 = some (1, .one) := by kernel_rfl
theorem ty40 : tfo Tryz.prog 136 2 = some (2, .one) := by kernel_rfl
theorem ty41 : tfo Tryz.prog 136 3 = some (3, .one) := by kernel_rfl
theorem ty42 : tfo Tryz.prog 136 4 = some (4, .one) := by kernel_rfl
theorem ty43 : tfo Tryz.prog 139 0 = some (0, .one) := by kernel_rfl
theorem ty44 : tfo Tryz.prog 139 1 = some (1, .one) := by kernel_rfl
theorem ty45 : tfo Tryz.prog 139 2 = some (2, .one) := by kernel_rfl
theorem ty46 : tfo Tryz.prog 139 3 = some (3, .one) := by kernel_rfl
theorem ty47 : tfo Tryz.prog 153 0 = some (0, .one) := by kernel_rfl
theorem ty48 : tfo Tryz.prog 153 1 = some (1, .one) := by kernel_rfl
theorem ty49 : tfo Tryz.prog 153 2 = some (2, .one) := by kernel_rfl
theorem ty50 : tfo Tryz.prog 153 3 = some (3, .one) := by kernel_rfl
theorem ty51 : tfo Tryz.prog 160 0 = some (0, .one) := by kernel_rfl
theorem ty52 : tfo Tryz.prog 160 1 = some (1, .one) := by kernel_rfl
theorem ty53 : tfo Tryz.prog 160 2 = some (2, .one) := by kernel_rfl
theorem ty54 : tfo Tryz.prog 166 0 = some (0, .one) := by kernel_rfl
theorem ty55 : tfo Tryz.prog 166 1 = some (1, .one) := by kernel_rfl
theorem ty56 : tfo Tryz.prog 166 2 = some (2, .one) := by kernel_rfl
theorem ty57 : tfo Tryz.prog 166 3 = some (3, .one) := by kernel_rfl
theorem ty58 : tfo Tryz.prog 166 4 = some (4, .one) := by kernel_rfl
theorem ty59 : tfo Tryz.prog 169 0 = some (0, .one) := by kernel_rfl
theorem ty60 : tfo Tryz.prog 169 1 = some (1, .one) := by kernel_rfl
theorem ty61 : tfo Tryz.prog 171 0 = some (0, .one) := by kernel_rfl
theorem ty62 : tfo Tryz.prog 171 1 = some (1, .one) := by kernel_rfl
theorem ty63 : tfo Tryz.prog 200 0 = some (0, .one) := by kernel_rfl
theorem ty64 : tfo Tryz.prog 200 1 = some (1, .one) := by kernel_rfl
theorem ty65 : tfo Tryz.prog 200 2 = some (2, .one) := by kernel_rfl
theorem ty66 : tfo Tryz.prog 203 0 = some (0, .one) := by kernel_rfl
theorem ty67 : tfo Tryz.prog 203 1 = some (1, .one) := by kernel_rfl
theorem ty68 : tfo Tryz.prog 203 2 = some (2, .one) := by kernel_rfl
theorem ty69 : tfo Tryz.prog 203 3 = some (3, .one) := by kernel_rfl
theorem ty70 : tfo Tryz.prog 203 4 = some (4, .one) := by kernel_rfl
theorem ty71 : tfo Tryz.prog 205 0 = some (0, .one) := by kernel_rfl
theorem ty72 : tfo Tryz.prog 205 1 = some (1, .one) := by kernel_rfl
theorem ty73 : tfo Tryz.prog 205 2 = some (2, .one) := by kernel_rfl
theorem ty74 : tfo Tryz.prog 205 3 = some (3, .one) := by kernel_rfl
theorem ty75 : tfo Tryz.prog 207 0 = some (0, .one) := by kernel_rfl
theorem ty76 : tfo Tryz.prog 207 1 = some (1, .one) := by kernel_rfl
theorem ty77 : tfo Tryz.prog 207 2 = some (2, .one) := by kernel_rfl
theorem ty78 : tfo Tryz.prog 207 3 = some (3, .one) := by kernel_rfl
theorem ty79 : tfo Tryz.prog 207 4 = some (4, .one) := by kernel_rfl
theorem ty80 : tfo Tryz.prog 209 0 = some (0, .one) := by kernel_rfl
theorem ty81 : tfo Tryz.prog 209 1 = some (1, .one) := by kernel_rfl
theorem ty82 : tfo Tryz.prog 209 2 = some (2, .one) := by kernel_rfl
theorem ty83 : tfo Tryz.prog 209 3 = some (3, .one) := by kernel_rfl
theorem ty84 : tfo Tryz.prog 32 0 = some (0, .one) := by kernel_rfl
theorem ty85 : tfo Tryz.prog 32 1 = some (1, .one) := by kernel_rfl
theorem ty86 : tfo Tryz.prog 32 2 = some (2, .one) := by kernel_rfl
theorem ty87 : tfo Tryz.prog 32 3 = some (3, .one) := by kernel_rfl
theorem ty88 : tfo Tryz.prog 32 4 = some (4, .one) := by kernel_rfl
theorem ty89 : tfo Tryz.prog 32 5 = some (5, .one) := by kernel_rfl
theorem ty90 : tfo Tryz.prog 32 6 = some (6, .one) := by kernel_rfl
theorem ty91 : tfo Tryz.prog 32 7 = some (7, .one) := by kernel_rfl
theorem ty92 : tfo Tryz.prog 32 8 = some (8, .one) := by kernel_rfl
theorem ty93 : tfo Tryz.prog 48 0 = some (0, .one) := by kernel_rfl
theorem ty94 : tfo Tryz.prog 48 1 = some (1, .one) := by kernel_rfl
theorem ty95 : tfo Tryz.prog 48 2 = some (2, .one) := by kernel_rfl
theorem ty96 : tfo Tryz.prog 48 3 = some (3, .one) := by kernel_rfl
theorem ty97 : tfo Tryz.prog 48 4 = some (4, .one) := by kernel_rfl
theorem ty98 : tfo Tryz.prog 48 5 = some (5, .one) := by kernel_rfl
theorem ty99 : tfo Tryz.prog 48 6 = some (6, .one) := by kernel_rfl
theorem ty100 : tfo Tryz.prog 48 7 = some (7, .one) := by kernel_rfl
theorem ty101 : tfo Tryz.prog 48 8 = some (8, .one) := by kernel_rfl
theorem ty102 : tfo Tryz.prog 58 0 = some (0, .one) := by kernel_rfl
theorem ty103 : tfo Tryz.prog 58 1 = some (1, .one) := by kernel_rfl
theorem ty104 : tfo Tryz.prog 58 2 = some (2, .one) := by kernel_rfl
theorem ty105 : tfo Tryz.prog 58 3 = some (3, .one) := by kernel_rfl
theorem ty106 : tfo Tryz.prog 58 4 = some (4, .one) := by kernel_rfl
theorem ty107 : tfo Tryz.prog 60 0 = some (0, .agg 5) := by kernel_rfl
theorem ty108 : tfo Tryz.prog 60 1 = some (5, .one) := by kernel_rfl
theorem ty109 : tfo Tryz.prog 60 2 = some (6, .one) := by kernel_rfl
theorem ty110 : tfo Tryz.prog 60 3 = some (7, .one) := by kernel_rfl
theorem ty111 : tfo Tryz.prog 64 0 = some (0, .one) := by kernel_rfl
theorem ty112 : tfo Tryz.prog 64 1 = some (1, .one) := by kernel_rfl
theorem ty113 : tfo Tryz.prog 64 2 = some (2, .one) := by kernel_rfl
theorem ty114 : tfo Tryz.prog 64 3 = some (3, .one) := by kernel_rfl
theorem ty115 : tfo Tryz.prog 64 4 = some (4, .one) := by kernel_rfl
theorem ty116 : tfo Tryz.prog 66 0 = some (0, .agg 5) := by kernel_rfl
theorem ty117 : tfo Tryz.prog 66 1 = some (5, .one) := by kernel_rfl
theorem ty118 : tfo Tryz.prog 66 2 = some (6, .one) := by kernel_rfl
theorem ty119 : tfo Tryz.prog 66 3 = some (7, .one) := by kernel_rfl
theorem ty120 : ti Tryz.prog 215 = .sl 4 1 := by kernel_rfl
theorem ty121 : ti Tryz.prog 22 = .sl 105 3 := by kernel_rfl
theorem ty122 : ti Tryz.prog 237 = .sl 3 1 := by kernel_rfl
theorem ty123 : ti Tryz.prog 24 = .sl 66 8 := by kernel_rfl
theorem ty124 : ti Tryz.prog 25 = .sl 160 3 := by kernel_rfl
theorem ty125 : ti Tryz.prog 26 = .sl 103 3 := by kernel_rfl
theorem ty126 : ti Tryz.prog 27 = .sl 136 5 := by kernel_rfl
theorem ty127 : ti Tryz.prog 28 = .sl 139 4 := by kernel_rfl
theorem ty128 : ti Tryz.prog 29 = .sl 166 5 := by kernel_rfl
theorem ty129 : ti Tryz.prog 30 = .sl 153 4 := by kernel_rfl
theorem ty130 : ti Tryz.prog 41 = .sl 60 8 := by kernel_rfl
theorem ty131 : ti Tryz.prog 42 = .sl 200 3 := by kernel_rfl
theorem ty132 : ti Tryz.prog 43 = .sl 203 5 := by kernel_rfl
theorem ty133 : ti Tryz.prog 44 = .sl 205 4 := by kernel_rfl
theorem ty134 : ti Tryz.prog 45 = .sl 207 5 := by kernel_rfl
theorem ty135 : ti Tryz.prog 46 = .sl 209 4 := by kernel_rfl
theorem ty136 : ti Tryz.prog 61 = .sl 171 2 := by kernel_rfl
theorem ty137 : ti Tryz.prog 68 = .sl 169 2 := by kernel_rfl
theorem ty138 : tk Tryz.prog 103 = .agg 3 := by kernel_rfl
theorem ty139 : tk Tryz.prog 105 = .agg 3 := by kernel_rfl
theorem ty140 : tk Tryz.prog 136 = .agg 5 := by kernel_rfl
theorem ty141 : tk Tryz.prog 139 = .agg 4 := by kernel_rfl
theorem ty142 : tk Tryz.prog 153 = .agg 4 := by kernel_rfl
theorem ty143 : tk Tryz.prog 160 = .agg 3 := by kernel_rfl
theorem ty144 : tk Tryz.prog 166 = .agg 5 := by kernel_rfl
theorem ty145 : tk Tryz.prog 169 = .agg 2 := by kernel_rfl
theorem ty146 : tk Tryz.prog 171 = .agg 2 := by kernel_rfl
theorem ty147 : tk Tryz.prog 200 = .agg 3 := by kernel_rfl
theorem ty148 : tk Tryz.prog 203 = .agg 5 := by kernel_rfl
theorem ty149 : tk Tryz.prog 205 = .agg 4 := by kernel_rfl
theorem ty150 : tk Tryz.prog 207 = .agg 5 := by kernel_rfl
theorem ty151 : tk Tryz.prog 209 = .agg 4 := by kernel_rfl
theorem ty152 : tk Tryz.prog 22 = .one := by kernel_rfl
theorem ty153 : tk Tryz.prog 24 = .one := by kernel_rfl
theorem ty154 : tk Tryz.prog 25 = .one := by kernel_rfl
theorem ty155 : tk Tryz.prog 26 = .one := by kernel_rfl
theorem ty156 : tk Tryz.prog 27 = .one := by kernel_rfl
theorem ty157 : tk Tryz.prog 28 = .one := by kernel_rfl
theorem ty158 : tk Tryz.prog 29 = .one := by kernel_rfl
theorem ty159 : tk Tryz.prog 3 = .one := by kernel_rfl
theorem ty160 : tk Tryz.prog 30 = .one := by kernel_rfl
theorem ty161 : tk Tryz.prog 32 = .agg 9 := by kernel_rfl
theorem ty162 : tk Tryz.prog 4 = .one := by kernel_rfl
theorem ty163 : tk Tryz.prog 41 = .one := by kernel_rfl
theorem ty164 : tk Tryz.prog 42 = .one := by kernel_rfl
theorem ty165 : tk Tryz.prog 43 = .one := by kernel_rfl
theorem ty166 : tk Tryz.prog 44 = .one := by kernel_rfl
theorem ty167 : tk Tryz.prog 45 = .one := by kernel_rfl
theorem ty168 : tk Tryz.prog 46 = .one := by kernel_rfl
theorem ty169 : tk Tryz.prog 48 = .agg 9 := by kernel_rfl
theorem ty170 : tk Tryz.prog 58 = .agg 5 := by kernel_rfl
theorem ty171 : tk Tryz.prog 60 = .agg 8 := by kernel_rfl
theorem ty172 : tk Tryz.prog 61 = .one := by kernel_rfl
theorem ty173 : tk Tryz.prog 64 = .agg 5 := by kernel_rfl
theorem ty174 : tk Tryz.prog 66 = .agg 8 := by kernel_rfl
theorem ty175 : tk Tryz.prog 68 = .one := by kernel_rfl
theorem ty176 : tnoint Tryz.prog 237 = true := by kernel_rfl
theorem ty177 : tnoint Tryz.prog 24 = true := by kernel_rfl
theorem ty178 : tnoint Tryz.prog 25 = true := by kernel_rfl
theorem ty179 : tnoint Tryz.prog 26 = true := by kernel_rfl
theorem ty180 : tnoint Tryz.prog 27 = true := by kernel_rfl
theorem ty181 : tnoint Tryz.prog 28 = true := by kernel_rfl
theorem ty182 : tnoint Tryz.prog 29 = true := by kernel_rfl
theorem ty183 : tnoint Tryz.prog 30 = true := by kernel_rfl
theorem ty184 : tnoint Tryz.prog 68 = true := by kernel_rfl
theorem ty185 : tse Tryz.prog 237 = some (3, 1, [.i .i64 0]) := by kernel_rfl
theorem ty186 : tse Tryz.prog 24 = some (66, 8, [.i .i64 0, .i .i64 0, .i .i64 0, .i .i64 0, .i .i64 0, .i .i64 0, .i .i64 0, .i .i64 0]) := by kernel_rfl
theorem ty187 : tse Tryz.prog 25 = some (160, 3, [.i .i64 0, .nil, .i .i64 0]) := by kernel_rfl
theorem ty188 : tse Tryz.prog 26 = some (103, 3, [.i .i64 0, .i .i64 0, .i .i64 0]) := by kernel_rfl
theorem ty189 : tse Tryz.prog 27 = some (136, 5, [.i .i64 0, .i .i64 0, .i .i64 0, .i .i64 0, .i .i64 0]) := by kernel_rfl
theorem ty190 : tse Tryz.prog 28 = some (139, 4, [.i .i64 0, .i .i64 0, .i .i64 0, .i .i64 0]) := by kernel_rfl
theorem ty191 : tse Tryz.prog 29 = some (166, 5, [.i .i64 0, .i .i64 0, .i .i64 0, .i .i64 0, .i .i64 0]) := by kernel_rfl
theorem ty192 : tse Tryz.prog 30 = some (153, 4, [.i .i64 0, .i .i64 0, .i .i64 0, .i .i64 0]) := by kernel_rfl
theorem ty193 : tse Tryz.prog 68 = some (169, 2, [.i .i64 0, .i .i64 0]) := by kernel_rfl
theorem ty194 : tzc Tryz.prog 103 = some [.i .i64 0, .i .i64 0, .i .i64 0] := by kernel_rfl
theorem ty195 : tzc Tryz.prog 136 = some [.i .i64 0, .i .i64 0, .i .i64 0, .i .i64 0, .i .i64 0] := by kernel_rfl
theorem ty196 : tzc Tryz.prog 139 = some [.i .i64 0, .i .i64 0, .i .i64 0, .i .i64 0] := by kernel_rfl
theorem ty197 : tzc Tryz.prog 153 = some [.i .i64 0, .i .i64 0, .i .i64 0, .i .i64 0] := by kernel_rfl
theorem ty198 : tzc Tryz.prog 160 = some [.i .i64 0, .nil, .i .i64 0] := by kernel_rfl
theorem ty199 : tzc Tryz.prog 166 = some [.i .i64 0, .i .i64 0, .i .i64 0, .i .i64 0, .i .i64 0] := by kernel_rfl
theorem ty200 : tzc Tryz.prog 169 = some [.i .i64 0, .i .i64 0] := by kernel_rfl
theorem ty201 : tzc Tryz.prog 32 = some [.i .i64 0, .nil, .nil, .nil, .nil, .nil, .nil, .nil, .i .i64 0] := by kernel_rfl
theorem ty202 : tzc Tryz.prog 64 = some [.i .i64 0, .i .i64 0, .i .i64 0, .i .i64 0, .i .i64 0] := by kernel_rfl
theorem ty203 : tzc Tryz.prog 66 = some [.i .i64 0, .i .i64 0, .i .i64 0, .i .i64 0, .i .i64 0, .i .i64 0, .i .i64 0, .i .i64 0] := by kernel_rfl
def tys := And.intro @ty0 <| And.intro @ty1 <| And.intro @ty2 <| And.intro @ty3 <| And.intro @ty4 <| And.intro @ty5 <| And.intro @ty6 <| And.intro @ty7 <| And.intro @ty8 <| And.intro @ty9 <| And.intro @ty10 <| And.intro @ty11 <| And.intro @ty12 <| And.intro @ty13 <| And.intro @ty14 <| And.intro @ty15 <| And.intro @ty16 <| And.intro @ty17 <| And.intro @ty18 <| And.intro @ty19 <| And.intro @ty20 <| And.intro @ty21 <| And.intro @ty22 <| And.intro @ty23 <| And.intro @ty24 <| And.intro @ty25 <| And.intro @ty26 <| And.intro @ty27 <| And.intro @ty28 <| And.intro @ty29 <| And.intro @ty30 <| And.intro @ty31 <| And.intro @ty32 <| And.intro @ty33 <| And.intro @ty34 <| And.intro @ty35 <| And.intro @ty36 <| And.intro @ty37 <| And.intro @ty38 <| And.intro @ty39 <| And.intro @ty40 <| And.intro @ty41 <| And.intro @ty42 <| And.intro @ty43 <| And.intro @ty44 <| And.intro @ty45 <| And.intro @ty46 <| And.intro @ty47 <| And.intro @ty48 <| And.intro @ty49 <| And.intro @ty50 <| And.intro @ty51 <| And.intro @ty52 <| And.intro @ty53 <| And.intro @ty54 <| And.intro @ty55 <| And.intro @ty56 <| And.intro @ty57 <| And.intro @ty58 <| And.intro @ty59 <| And.intro @ty60 <| And.intro @ty61 <| And.intro @ty62 <| And.intro @ty63 <| And.intro @ty64 <| And.intro @ty65 <| And.intro @ty66 <| And.intro @ty67 <| And.intro @ty68 <| And.intro @ty69 <| And.intro @ty70 <| And.intro @ty71 <| And.intro @ty72 <| And.intro @ty73 <| And.intro @ty74 <| And.intro @ty75 <| And.intro @ty76 <| And.intro @ty77 <| And.intro @ty78 <| And.intro @ty79 <| And.intro @ty80 <| And.intro @ty81 <| And.intro @ty82 <| And.intro @ty83 <| And.intro @ty84 <| And.intro @ty85 <| And.intro @ty86 <| And.intro @ty87 <| And.intro @ty88 <| And.intro @ty89 <| And.intro @ty90 <| And.intro @ty91 <| And.intro @ty92 <| And.intro @ty93 <| And.intro @ty94 <| And.intro @ty95 <| And.intro @ty96 <| And.intro @ty97 <| And.intro @ty98 <| And.intro @ty99 <| And.intro @ty100 <| And.intro @ty101 <| And.intro @ty102 <| And.intro @ty103 <| And.intro @ty104 <| And.intro @ty105 <| And.intro @ty106 <| And.intro @ty107 <| And.intro @ty108 <| And.intro @ty109 <| And.intro @ty110 <| And.intro @ty111 <| And.intro @ty112 <| And.intro @ty113 <| And.intro @ty114 <| And.intro @ty115 <| And.intro @ty116 <| And.intro @ty117 <| And.intro @ty118 <| And.intro @ty119 <| And.intro @ty120 <| And.intro @ty121 <| And.intro @ty122 <| And.intro @ty123 <| And.intro @ty124 <| And.intro @ty125 <| And.intro @ty126 <| And.intro @ty127 <| And.intro @ty128 <| And.intro @ty129 <| And.intro @ty130 <| And.intro @ty131 <| And.intro @ty132 <| And.intro @ty133 <| And.intro @ty134 <| And.intro @ty135 <| And.intro @ty136 <| And.intro @ty137 <| And.intro @ty138 <| And.intro @ty139 <| And.intro @ty140 <| And.intro @ty141 <| And.intro @ty142 <| And.intro @ty143 <| And.intro @ty144 <| And.intro @ty145 <| And.intro @ty146 <| And.intro @ty147 <| And.intro @ty148 <| And.intro @ty149 <| And.intro @ty150 <| And.intro @ty151 <| And.intro @ty152 <| And.intro @ty153 <| And.intro @ty154 <| And.intro @ty155 <| And.intro @ty156 <| And.intro @ty157 <| And.intro @ty158 <| And.intro @ty159 <| And.intro @ty160 <| And.intro @ty161 <| And.intro @ty162 <| And.intro @ty163 <| And.intro @ty164 <| And.intro @ty165 <| And.intro @ty166 <| And.intro @ty167 <| And.intro @ty168 <| And.intro @ty169 <| And.intro @ty170 <| And.intro @ty171 <| And.intro @ty172 <| And.intro @ty173 <| And.intro @ty174 <| And.intro @ty175 <| And.intro @ty176 <| And.intro @ty177 <| And.intro @ty178 <| And.intro @ty179 <| And.intro @ty180 <| And.intro @ty181 <| And.intro @ty182 <| And.intro @ty183 <| And.intro @ty184 <| And.intro @ty185 <| And.intro @ty186 <| And.intro @ty187 <| And.intro @ty188 <| And.intro @ty189 <| And.intro @ty190 <| And.intro @ty191 <| And.intro @ty192 <| And.intro @ty193 <| And.intro @ty194 <| And.intro @ty195 <| And.intro @ty196 <| And.intro @ty197 <| And.intro @ty198 <| And.intro @ty199 <| And.intro @ty200 <| And.intro @ty201 <| And.intro @ty202 @ty203
def mt (g : Nat) (K : KS) (args : List AV) : Option AV := mtI [(115, (4, 32)), (201, (5, 40))] g K args
noncomputable def T : Tld := { P := Tryz.prog, ann := [(6, { ac := [(13, 0), (17, 0)], jn := [(8, (52, 44, 52)), (14, (73, 61, 73)), (25, (102, 94, 102))] }), (13, {}), (15, { lp := [(3, ⟨[0, 3, 4], [.s 3 3], [3], [.s 3 3]⟩)], sh := [.z 3] }), (17, {}), (18, { lp := [(4, ⟨[0, 1, 5], [], [], []⟩)], rt := ⟨[4], [], [], []⟩ }), (19, { ak := [0], lp := [(2, ⟨[0, 1, 5], [.s 0 3], [0, 1], [.s 0 3]⟩)] }), (20, { ak := [0, 1, 2, 3, 4, 5, 6], ac := [(1, 0), (2, 0), (3, 0), (4, 0), (5, 0), (6, 0), (7, 0)] }), (21, {}), (22, {}), (24, { sh := [.a [0, 8, 3, 3, 5, 4, 5, 4, 0]] }), (28, { ot := [(7, .one 0 (.one 1 (.one 2 (.one 3 (.one 4 (.one 6 (.one 7 (.one 12 (.alt (.one 5 (.alt (.one 8 (.alt (.one 9 (.one 10 (.one 11 (.one 13 (.one 14 (.one 15 (.one 16 (.done)))))))) (.one 10 (.alt (.one 9 (.one 11 (.one 13 (.one 14 (.one 15 (.one 16 (.done))))))) (.one 11 (.one 13 (.one 9 (.one 14 (.one 15 (.one 16 (.done))))))))))) (.one 10 (.alt (.one 8 (.alt (.one 9 (.one 11 (.one 13 (.one 14 (.one 15 (.one 16 (.done))))))) (.one 11 (.one 13 (.one 9 (.one 14 (.one 15 (.one 16 (.done))))))))) (.one 11 (.one 13 (.one 8 (.one 9 (.one 14 (.one 15 (.one 16 (.done)))))))))))) (.alt (.one 8 (.alt (.one 5 (.alt (.one 9 (.one 10 (.one 11 (.one 13 (.one 14 (.one 15 (.one 16 (.done)))))))) (.one 10 (.alt (.one 9 (.one 11 (.one 13 (.one 14 (.one 15 (.one 16 (.done))))))) (.one 11 (.one 13 (.one 9 (.one 14 (.one 15 (.one 16 (.done))))))))))) (.one 10 (.alt (.one 5 (.alt (.one 9 (.one 11 (.one 13 (.one 14 (.one 15 (.one 16 (.done))))))) (.one 11 (.one 13 (.one 9 (.one 14 (.one 15 (.one 16 (.done))))))))) (.one 11 (.one 13 (.one 5 (.one 9 (.one 14 (.one 15 (.one 16 (.done)))))))))))) (.one 10 (.alt (.one 5 (.alt (.one 8 (.alt (.one 9 (.one 11 (.one 13 (.one 14 (.one 15 (.one 16 (.done))))))) (.one 11 (.one 13 (.one 9 (.one 14 (.one 15 (.one 16 (.done))))))))) (.one 11 (.one 13 (.one 8 (.one 9 (.one 14 (.one 15 (.one 16 (.done)))))))))) (.alt (.one 8 (.alt (.one 5 (.alt (.one 9 (.one 11 (.one 13 (.one 14 (.one 15 (.one 16 (.done))))))) (.one 11 (.one 13 (.one 9 (.one 14 (.one 15 (.one 16 (.done))))))))) (.one 11 (.one 13 (.one 5 (.one 9 (.one 14 (.one 15 (.one 16 (.done)))))))))) (.one 11 (.one 13 (.alt (.one 5 (.one 8 (.one 9 (.one 14 (.one 15 (.one 16 (.done))))))) (.one 8 (.one 5 (.one 9 (.one 14 (.one 15 (.one 16 (.done)))))))))))))))))))))))], eb := [(7, [47])], av := [(8, [92])], jn := [(5, (44, 30, 44))], lp := [(5, ⟨[1, 3, 4, 8, 10, 12, 13], [.s 4 0, .s 8 0, .s 10 0, .c 2 1 8, .c 2 2 3, .c 2 3 3, .c 2 4 5, .c 2 5 4, .c 2 6 5, .c 2 7 4], [1, 3, 4, 8, 10, 12, 13], [.s 4 0, .s 8 0, .s 10 0, .c 2 1 8, .c 2 2 3, .c 2 3 3, .c 2 4 5, .c 2 5 4, .c 2 6 5, .c 2 7 4]⟩)], sh := [.a [0, 8, 3, 3, 5, 4, 5, 4, 0], .n] }), (29, { ot := [(5, .one 0 (.one 1 (.one 2 (.one 3 (.one 4 (.one 6 (.one 7 (.alt (.one 5 (.one 8 (.one 9 (.one 10 (.one 11 (.done)))))) (.one 8 (.one 5 (.one 9 (.one 10 (.one 11 (.done))))))))))))))], av := [(5, [115]), (6, [100])], jn := [(3, (40, 27, 40))], sh := [.a [0, 8, 3, 3, 5, 4, 5, 4, 0], .n] }), (34, {}), (36, {}), (37, { lp := [(3, ⟨[0, 3, 4], [.s 3 2], [3], [.s 3 2]⟩)], sh := [.z 2] }), (39, { lp := [(4, ⟨[0, 1, 5], [], [], []⟩)], rt := ⟨[4], [], [], []⟩ }), (40, { ak := [0], lp := [(2, ⟨[0, 1, 5], [.s 0 2], [0, 1], [.s 0 2]⟩)] }), (59, { ord := [(1, [0, 1, 2, 3, 4, 6, 7, 9, 10, 11, 13, 14, 15, 17, 18, 19, 21, 22, 23, 25, 26, 27, 29, 30, 5, 8, 12, 16, 20, 24, 28, 31, 32])], eb := [(1, [5, 12, 16, 20, 24, 28])], sh := [.a [0, 8, 3, 3, 5, 4, 5, 4, 0]] }), (60, { jn := [(1, (48, 3, 48)), (3, (86, 49, 86)), (5, (2, 87, 93))] }), (62, {}), (63, { sh := [.z 3] }), (64, { ord := [(1, [0, 1, 2, 3, 4, 5, 6, 7, 8, 9, 10, 11, 12, 13, 14, 15, 16, 17, 18, 19, 20, 21, 22, 23, 24, 25, 26, 27, 28, 29, 30, 31, 32, 33, 34, 35, 36, 37, 38, 39, 40, 41, 42, 44, 45, 43, 46, 47, 48, 49, 50, 51, 52, 53])], jn := [(1, (2, 3, 56))] }), (65, { lp := [(4, ⟨[0, 1, 5], [], [], []⟩)], rt := ⟨[4], [], [], []⟩ }), (66, { lp := [(4, ⟨[0, 1, 5], [], [], []⟩)], rt := ⟨[4], [], [], []⟩ }), (67, { lp := [(4, ⟨[0, 1, 5], [], [], []⟩)], rt := ⟨[4], [], [], []⟩ }), (68, { lp := [(4, ⟨[0, 1, 5], [], [], []⟩)], rt := ⟨[4], [], [], []⟩ }), (69, { lp := [(4, ⟨[0, 1, 5], [], [], []⟩)], rt := ⟨[4], [], [], []⟩ }), (70, { lp := [(4, ⟨[0, 1, 5], [], [], []⟩)], rt := ⟨[4], [], [], []⟩ }), (71, {}), (72, { ak := [0], lp := [(2, ⟨[0, 1, 5], [.s 0 8], [0, 1], [.s 0 8]⟩)] }), (73, { an := [(6, [0, 0, 0, 0])], ak := [0], lp := [(2, ⟨[0, 1, 5], [.s 0 3], [0, 1], [.s 0 3]⟩)] }), (74, { ak := [0], lp := [(2, ⟨[0, 1, 5], [.s 0 5], [0, 1], [.s 0 5]⟩)] }), (75, { ak := [0], lp := [(2, ⟨[0, 1, 5], [.s 0 4], [0, 1], [.s 0 4]⟩)] }), (76, { ak := [0], lp := [(2, ⟨[0, 1, 5], [.s 0 5], [0, 1], [.s 0 5]⟩)] }), (77, { ak := [0], lp := [(2, ⟨[0, 1, 5], [.s 0 4], [0, 1], [.s 0 4]⟩)] }), (78, { lp := [(2, ⟨[0, 1, 5], [], [1], []⟩)], rt := ⟨[4], [], [], []⟩ }), (79, { lp := [(2, ⟨[0, 1, 5], [], [1], []⟩)], rt := ⟨[4], [], [], []⟩ }), (80, { lp := [(2, ⟨[0, 1, 5], [], [1], []⟩)], rt := ⟨[4], [], [], []⟩ }), (81, { lp := [(2, ⟨[0, 1, 5], [], [1], []⟩)], rt := ⟨[4], [], [], []⟩ }), (82, { lp := [(2, ⟨[0, 1, 5], [], [1], []⟩)], rt := ⟨[4], [], [], []⟩ }), (83, { lp := [(2, ⟨[0, 1, 5], [], [1], []⟩)], rt := ⟨[4], [], [], []⟩ }), (84, { lp := [(2, ⟨[0, 1, 5], [], [1], []⟩)], rt := ⟨[4], [], [], []⟩ }), (85, {}), (86, { lp := [(5, ⟨[0, 1, 5], [], [1], []⟩)], rt := ⟨[4], [], [], []⟩ }), (87, {}), (88, {}), (89, {}), (90, {}), (91, { jn := [(1, (6, 7, 15))] }), (92, { jn := [(1, (19, 8, 19))], sh := [.a [0, 8, 3, 3, 5, 4, 5, 4, 0], .n] }), (93, { lp := [(3, ⟨[0, 3, 4], [.s 3 8], [3], [.s 3 8]⟩)], sh := [.z 8] }), (94, { lp := [(3, ⟨[0, 3, 4], [.s 3 3], [3], [.s 3 3]⟩)], sh := [.z 3] }), (95, { lp := [(3, ⟨[0, 3, 4], [.s 3 5], [3], [.s 3 5]⟩)], sh := [.z 5] }), (96, { lp := [(3, ⟨[0, 3, 4], [.s 3 4], [3], [.s 3 4]⟩)], sh := [.z 4] }), (97, { lp := [(3, ⟨[0, 3, 4], [.s 3 5], [3], [.s 3 5]⟩)], sh := [.z 5] }), (98, { lp := [(3, ⟨[0, 3, 4], [.s 3 4], [3], [.s 3 4]⟩)], sh := [.z 4] }), (99, { ord := [(1, [0, 1, 3, 4, 6, 7, 9, 10, 2, 12, 5, 8, 11, 13, 14, 15, 16, 17, 18, 19]), (2, [0, 1, 3, 4, 6, 7, 2, 9, 5, 8, 10, 11, 12, 13, 14])], sh := [.a [0, 8, 3, 3, 5, 4, 5, 4, 0]] }), (100, { jn := [(1, (19, 8, 19))], sh := [.a [0, 8, 3, 3, 5, 4, 5, 4, 0], .n] }), (101, { jn := [(1, (6, 7, 15))] }), (103, { sh := [.z 2] }), (105, { jn := [(1, (5, 6, 19)), (3, (19, 20, 30))] }), (106, {}), (107, { sh := [.z 2] }), (109, { jn := [(1, (5, 6, 19)), (3, (19, 20, 30))] }), (111, { ot := [(9, .one 1 (.one 2 (.one 3 (.one 8 (.one 9 (.one 10 (.alt (.one 0 (.alt (.one 4 (.one 5 (.one 6 (.one 7 (.one 11 (.one 12 (.done))))))) (.one 5 (.alt (.one 4 (.one 6 (.one 7 (.one 11 (.one 12 (.done)))))) (.one 6 (.one 4 (.one 7 (.one 11 (.one 12 (.done)))))))))) (.one 5 (.alt (.one 0 (.alt (.one 4 (.one 6 (.one 7 (.one 11 (.one 12 (.done)))))) (.one 6 (.one 4 (.one 7 (.one 11 (.one 12 (.done)))))))) (.one 6 (.one 0 (.one 4 (.one 7 (.one 11 (.one 12 (.done))))))))))))))))], jn := [(6, (7, 19, 40)), (10, (67, 62, 67))], lp := [(4, ⟨[0, 3, 6, 7, 8], [.s 3 0], [0, 3, 6, 7], [.s 3 0]⟩)], sh := [.z 5, .n] }), (112, { jn := [(4, (22, 12, 22))], lp := [(2, ⟨[0, 1, 5], [], [], []⟩)], rt := ⟨[4], [], [], []⟩ }), (113, { av := [(7, [201])], jn := [(2, (24, 10, 24)), (5, (39, 26, 39))], lp := [(5, ⟨[0, 3, 6, 7], [.s 3 0, .s 6 5], [0, 3, 6, 7], [.s 3 0, .s 6 5]⟩)], sh := [.z 5, .n] }), (114, {}), (117, { lp := [(2, ⟨[0, 1, 5], [], [], []⟩)], rt := ⟨[4], [], [], []⟩ }), (133, {}), (134, {}), (139, {}), (146, {}), (147, { ord := [(5, [0, 1, 2, 3, 4, 5, 6, 7, 8, 9, 10, 11, 13, 14, 15, 16, 17, 12, 18, 19, 20, 21])], eb := [(5, [18])], lp := [(3, ⟨[0, 3, 4], [.s 3 3], [3], [.s 3 3]⟩)], sh := [.z 3] }), (148, { jn := [(4, (35, 10, 35))], lp := [(2, ⟨[0, 3], [], [0], []⟩)], rt := ⟨[2], [], [], []⟩ }), (149, { jn := [(4, (61, 10, 61))], lp := [(2, ⟨[0, 3], [], [0], []⟩)], rt := ⟨[2], [], [], []⟩ }), (150, { jn := [(4, (53, 11, 53)), (9, (77, 59, 77))], lp := [(2, ⟨[0, 3], [], [0], []⟩), (7, ⟨[0, 3, 4], [], [0, 3], []⟩)], rt := ⟨[2], [], [], []⟩ }), (151, { jn := [(5, (58, 16, 58)), (10, (84, 64, 84))], lp := [(2, ⟨[0, 3], [], [0], []⟩), (8, ⟨[0, 3, 4, 5], [.s 4 0], [0, 3], []⟩)], rt := ⟨[2], [], [], []⟩ }), (152, { jn := [(3, (15, 7, 15)), (7, (67, 25, 67)), (10, (96, 73, 96))], lp := [(3, ⟨[0, 3, 4], [], [0], []⟩)], rt := ⟨[2], [], [], []⟩ }), (153, { jn := [(5, (58, 15, 58))], lp := [(2, ⟨[0, 3], [], [0], []⟩)], rt := ⟨[2], [], [], []⟩ }), (154, { ord := [(13, [0, 1, 2, 3, 4, 5, 6, 7, 8, 9, 10, 11, 14, 15, 12, 13, 16, 17, 18, 19, 20, 21, 22, 23, 24, 25, 26, 27, 28, 29])], jn := [(13, (77, 48, 77)), (18, (103, 85, 103))], lp := [(5, ⟨[1, 3, 4], [.s 1 0, .s 3 1], [1, 3], [.s 1 0, .s 3 1]⟩), (10, ⟨[1, 3, 5], [.s 1 0, .s 3 1], [1], [.s 1 0]⟩), (16, ⟨[1, 7], [.s 1 0], [], []⟩)], rt := ⟨[2], [], [], []⟩ }), (155, { ord := [(8, [0, 1, 2, 3, 4, 5, 6, 7, 8, 9, 10, 11, 12, 13, 14, 15, 16, 17, 18, 19, 20, 21, 22, 23, 24, 25, 26, 27, 28, 29, 30, 32, 33, 34, 35, 36, 38, 31, 37, 39, 40, 41, 42, 43, 44, 45, 46, 47])], jn := [(8, (77, 30, 77))], lp := [(4, ⟨[1, 3], [.s 1 0], [], []⟩)], rt := ⟨[2], [], [], []⟩ }), (156, { jn := [(6, (34, 15, 34))], lp := [(4, ⟨[0, 8, 9, 10], [], [], []⟩)], rt := ⟨[2], [], [], []⟩ }), (157, { jn := [(6, (51, 15, 51))], lp := [(4, ⟨[0, 8, 9, 10], [], [], []⟩)], rt := ⟨[2], [], [], []⟩ }), (158, { jn := [(6, (54, 15, 54))], lp := [(4, ⟨[0, 8, 9, 10], [], [], []⟩)], rt := ⟨[2], [], [], []⟩ }), (159, { jn := [(6, (59, 17, 59)), (11, (82, 68, 82))], lp := [(4, ⟨[0, 10, 11, 12], [], [], []⟩), (9, ⟨[0, 4, 10, 11, 12, 62, 63, 64], [.s 4 0], [0, 10, 11, 12], []⟩)], rt := ⟨[2], [], [], []⟩ }), (160, { jn := [(7, (61, 17, 61)), (13, (83, 73, 83))], lp := [(5, ⟨[0, 3, 10, 11, 12], [], [], []⟩)], rt := ⟨[2], [], [], []⟩ }), (161, { jn := [(6, (58, 15, 58))], lp := [(4, ⟨[0, 8, 9, 10], [], [], []⟩)], rt := ⟨[2], [], [], []⟩ }), (162, { ord := [(7, [0, 1, 2, 3, 4, 5, 6, 7, 8, 9, 10, 11, 12, 13, 14, 15, 18, 19, 20, 21, 16, 17, 22, 23, 24])], jn := [(7, (54, 30, 54)), (13, (73, 63, 73))], lp := [(5, ⟨[1, 3, 23, 24, 25], [.s 1 0, .s 3 1], [1, 3], [.s 1 0, .s 3 1]⟩), (11, ⟨[1, 3, 57, 58, 59], [.s 1 0, .s 3 1], [1, 3], [.s 1 0, .s 3 1]⟩), (17, ⟨[1, 75, 76, 77], [.s 1 0, .s 75 1], [], []⟩)], rt := ⟨[2], [], [], []⟩ }), (163, { ord := [(7, [0, 1, 2, 3, 4, 5, 6, 7, 8, 9, 10, 11, 12, 13, 14, 15, 16, 17, 18, 19, 20, 21, 22, 24, 26, 27, 23, 25, 28, 29, 30])], jn := [(7, (56, 26, 56))], lp := [(4, ⟨[1, 14, 15, 16], [.s 1 0], [], []⟩)], rt := ⟨[2], [], [], []⟩ }), (164, { lp := [(3, ⟨[1, 3, 13, 14, 15], [.s 1 0], [1, 3], [.s 1 0]⟩), (8, ⟨[1, 3, 25, 26, 27], [.s 1 0], [1, 3], [.s 1 0]⟩), (13, ⟨[1, 3, 37, 38, 39], [.s 1 0], [1, 3], [.s 1 0]⟩), (18, ⟨[3, 49, 50, 51], [], [3], []⟩)] }), (165, {}), (166, {}), (167, {}), (168, {}), (169, {}), (170, { lp := [(2, ⟨[0, 1, 5], [], [1], []⟩)], rt := ⟨[4], [], [], []⟩ }), (171, {}), (172, { sh := [.a [0, 2, 0]] }), (173, {}), (174, {}), (175, {}), (176, {}), (177, { sh := [.z 8] }), (178, { lp := [(3, ⟨[3, 7, 8, 9], [.s 3 3], [3], [.s 3 3]⟩)], sh := [.z 3] }), (179, { sh := [.z 5] }), (180, { sh := [.z 4] }), (181, { sh := [.z 5] }), (182, { sh := [.z 4] }), (183, {}), (184, { lp := [(2, ⟨[0, 1, 5], [], [], []⟩)], rt := ⟨[4], [], [], []⟩ }), (187, { jn := [(1, (2, 3, 26))] }), (188, { jn := [(4, (43, 10, 43))], lp := [(2, ⟨[0, 3], [], [0], []⟩)], rt := ⟨[2], [], [], []⟩ }), (189, {}), (190, { lp := [(2, ⟨[0, 1, 7, 8], [], [], []⟩)], rt := ⟨[4], [], [], []⟩ }), (191, {}), (192, {}), (193, { sh := [.z 2] }), (196, { jn := [(1, (2, 3, 26))] }), (197, { jn := [(6, (39, 15, 39))], lp := [(4, ⟨[0, 8, 9, 10], [], [], []⟩)], rt := ⟨[2], [], [], []⟩ }), (198, {}), (199, {}), (200, { jn := [(1, (3, 4, 16))] }), (202, { lp := [(2, ⟨[0, 1, 7, 8], [], [], []⟩)], rt := ⟨[4], [], [], []⟩ }), (203, {}), (208, { jn := [(1, (2, 3, 26))] }), (209, {}), (210, {}), (212, { jn := [(1, (2, 3, 26))] }), (217, {}), (221, {}), (228, {}), (229, { jn := [(1, (2, 3, 21))] }), (230, { lp := [(3, ⟨[0, 1, 2, 7, 8], [], [7], []⟩)] }), (231, { jn := [(3, (16, 9, 16)), (6, (42, 28, 42))], lp := [(3, ⟨[0, 1, 5, 6], [.s 5 1], [5], [.s 5 1]⟩)], sh := [.z 1] }), (232, { lp := [(2, ⟨[0, 1, 5], [], [], []⟩)], rt := ⟨[4], [], [], []⟩ }), (233, { jn := [(1, (2, 3, 21))] }), (234, {}), (235, { lp := [(2, ⟨[0, 1, 5], [], [], []⟩)], rt := ⟨[4], [], [], []⟩ }), (236, { ac := [(10, 0)], jn := [(7, (36, 20, 36))], lp := [(5, ⟨[0, 1, 5, 13, 14, 15], [.s 5 1], [5], [.s 5 1]⟩)], sh := [.z 1] }), (237, {}), (238, {}), (239, { lp := [(2, ⟨[0, 1, 7, 8], [], [], []⟩)], rt := ⟨[4], [], [], []⟩ }), (241, { lp := [(2, ⟨[0, 1, 7, 8], [], [], []⟩)], rt := ⟨[4], [], [], []⟩ }), (242, {}), (247, { lp := [(2, ⟨[0, 1, 7, 8], [], [], []⟩)], rt := ⟨[4], [], [], []⟩ }), (248, {}), (251, { lp := [(3, ⟨[0, 3, 4], [], [3], []⟩)] }), (256, { lp := [(3, ⟨[3, 6, 7, 8], [], [3], []⟩)] }), (264, { ot := [(6, .one 1 (.one 2 (.one 3 (.one 5 (.one 8 (.one 9 (.one 10 (.alt (.one 0 (.alt (.one 4 (.one 6 (.one 7 (.one 11 (.one 12 (.done)))))) (.one 6 (.one 4 (.one 7 (.one 11 (.one 12 (.done)))))))) (.one 6 (.one 0 (.one 4 (.one 7 (.one 11 (.one 12 (.done)))))))))))))))], jn := [(2, (17, 6, 17)), (4, (31, 20, 31))], lp := [(2, ⟨[0, 1, 5], [], [0, 1, 5], []⟩)], sh := [.z 1] }), (266, { lp := [(2, ⟨[0, 1, 7, 8], [], [], []⟩)], rt := ⟨[4], [], [], []⟩ }), (267, {}), (274, {}), (283, {})], xt := fun _ _ => none, st := fun g => Nat.beq g 265, qt := fun _ => false, pz := [(183, [.z 1, .n])], vt := fun g => Nat.beq g 92 || Nat.beq g 100 || Nat.beq g 115 || Nat.beq g 201, mt := mt }
theorem TP : T.P = Tryz.prog := _root_.id rfl
theorem TZ : T.pz = [(183, [.z 1, .n])] := _root_.id rfl
def eY := And.intro evT <| And.intro encs <| And.intro @c_js <| And.intro @r_map_some <| @e_need_t
def eZ := And.intro evB <| And.intro evT <| And.intro tys <| And.intro encs <| And.intro TP <| And.intro TZ <| And.intro (@orc_p T) <| And.intro (@orc_l T) <| And.intro (@orc_a T) <| @orc_m T
theorem e_mt115 (n : Nat) {R} {xs : List Trial} (i : Int) {V} {ys : List Trial} [H1 : EncL cTrial R xs] [H2 : EncL cTrial V ys] : CM T (n + 1) 115 [some (.lst 4 R), some (.lst 4 V)] [.sl 0, .i .i64 i, .sl 1] = need (insB xs i ys 32) (some (.own 4 ((insL xs i ys).map cTrial))) () := by
  rcases H1, H2 with ⟨⟨rfl⟩, ⟨rfl⟩⟩
  rw [CM_x T n 115 _ _ (by kernel_rfl)]
  show (if 4 = 4 ∧ 4 = 4 ∧ cleanRows (xs.map cTrial) = true ∧ cleanRows (ys.map cTrial) = true then need (insB (xs.map cTrial) i (ys.map cTrial) 32) (some (AV.own 4 (insL (xs.map cTrial) i (ys.map cTrial)))) () else none) = _
  rw [if_pos ⟨rfl, rfl, cl_Trial xs, cl_Trial ys⟩, t_insB, t_insL]
theorem e_mt201 (n : Nat) {R} {xs : List Claim} (i : Int) {V} {ys : List Claim} [H1 : EncL cClaim R xs] [H2 : EncL cClaim V ys] : CM T (n + 1) 201 [some (.lst 5 R), some (.lst 5 V)] [.sl 0, .i .i64 i, .sl 1] = need (insB xs i ys 40) (some (.own 5 ((insL xs i ys).map cClaim))) () := by
  rcases H1, H2 with ⟨⟨rfl⟩, ⟨rfl⟩⟩
  rw [CM_x T n 201 _ _ (by kernel_rfl)]
  show (if 5 = 5 ∧ 5 = 5 ∧ cleanRows (xs.map cClaim) = true ∧ cleanRows (ys.map cClaim) = true then need (insB (xs.map cClaim) i (ys.map cClaim) 40) (some (AV.own 5 (insL (xs.map cClaim) i (ys.map cClaim)))) () else none) = _
  rw [if_pos ⟨rfl, rfl, cl_Claim xs, cl_Claim ys⟩, t_insB, t_insL]
theorem e_cI : cI = c_i64 := _root_.id rfl
theorem ints_c (xs : List Int) : intsOf (xs.map c_i64) = some xs := s_ints xs
theorem st_265 : T.st 265 = true := by kernel_rfl
theorem st_19 : T.st 19 = false := by kernel_rfl
theorem qt_19 : T.qt 19 = false := by kernel_rfl
theorem wt_19 : T.wt 19 = true := by kernel_rfl
theorem vt_19 : T.vt 19 = false := by kernel_rfl
theorem st_20 : T.st 20 = false := by kernel_rfl
theorem qt_20 : T.qt 20 = false := by kernel_rfl
theorem wt_20 : T.wt 20 = true := by kernel_rfl
theorem vt_20 : T.vt 20 = false := by kernel_rfl
theorem st_40 : T.st 40 = false := by kernel_rfl
theorem qt_40 : T.qt 40 = false := by kernel_rfl
theorem wt_40 : T.wt 40 = true := by kernel_rfl
theorem vt_40 : T.vt 40 = false := by kernel_rfl
theorem st_72 : T.st 72 = false := by kernel_rfl
theorem qt_72 : T.qt 72 = false := by kernel_rfl
theorem wt_72 : T.wt 72 = true := by kernel_rfl
theorem vt_72 : T.vt 72 = false := by kernel_rfl
theorem st_73 : T.st 73 = false := by kernel_rfl
theorem qt_73 : T.qt 73 = false := by kernel_rfl
theorem wt_73 : T.wt 73 = true := by kernel_rfl
theorem vt_73 : T.vt 73 = false := by kernel_rfl
theorem st_74 : T.st 74 = false := by kernel_rfl
theorem qt_74 : T.qt 74 = false := by kernel_rfl
theorem wt_74 : T.wt 74 = true := by kernel_rfl
theorem vt_74 : T.vt 74 = false := by kernel_rfl
theorem st_75 : T.st 75 = false := by kernel_rfl
theorem qt_75 : T.qt 75 = false := by kernel_rfl
theorem wt_75 : T.wt 75 = true := by kernel_rfl
theorem vt_75 : T.vt 75 = false := by kernel_rfl
theorem st_76 : T.st 76 = false := by kernel_rfl
theorem qt_76 : T.qt 76 = false := by kernel_rfl
theorem wt_76 : T.wt 76 = true := by kernel_rfl
theorem vt_76 : T.vt 76 = false := by kernel_rfl
theorem st_77 : T.st 77 = false := by kernel_rfl
theorem qt_77 : T.qt 77 = false := by kernel_rfl
theorem wt_77 : T.wt 77 = true := by kernel_rfl
theorem vt_77 : T.vt 77 = false := by kernel_rfl
theorem st_92 : T.st 92 = false := by kernel_rfl
theorem qt_92 : T.qt 92 = false := by kernel_rfl
theorem wt_92 : T.wt 92 = false := by kernel_rfl
theorem vt_92 : T.vt 92 = true := by kernel_rfl
theorem st_100 : T.st 100 = false := by kernel_rfl
theorem qt_100 : T.qt 100 = false := by kernel_rfl
theorem wt_100 : T.wt 100 = false := by kernel_rfl
theorem vt_100 : T.vt 100 = true := by kernel_rfl
theorem st_115 : T.st 115 = false := by kernel_rfl
theorem qt_115 : T.qt 115 = false := by kernel_rfl
theorem wt_115 : T.wt 115 = false := by kernel_rfl
theorem vt_115 : T.vt 115 = true := by kernel_rfl
theorem st_201 : T.st 201 = false := by kernel_rfl
theorem qt_201 : T.qt 201 = false := by kernel_rfl
theorem wt_201 : T.wt 201 = false := by kernel_rfl
theorem vt_201 : T.vt 201 = true := by kernel_rfl
def srt := And.intro @e_cI <| And.intro @ints_c <| And.intro @orc_s <| And.intro @orc_q <| And.intro @orc_w <| And.intro @orc_v <| And.intro @st_265 <| And.intro @st_19 <| And.intro @qt_19 <| And.intro @wt_19 <| And.intro @vt_19 <| And.intro @st_20 <| And.intro @qt_20 <| And.intro @wt_20 <| And.intro @vt_20 <| And.intro @st_40 <| And.intro @qt_40 <| And.intro @wt_40 <| And.intro @vt_40 <| And.intro @st_72 <| And.intro @qt_72 <| And.intro @wt_72 <| And.intro @vt_72 <| And.intro @st_73 <| And.intro @qt_73 <| And.intro @wt_73 <| And.intro @vt_73 <| And.intro @st_74 <| And.intro @qt_74 <| And.intro @wt_74 <| And.intro @vt_74 <| And.intro @st_75 <| And.intro @qt_75 <| And.intro @wt_75 <| And.intro @vt_75 <| And.intro @st_76 <| And.intro @qt_76 <| And.intro @wt_76 <| And.intro @vt_76 <| And.intro @st_77 <| And.intro @qt_77 <| And.intro @wt_77 <| And.intro @vt_77 <| And.intro @st_92 <| And.intro @qt_92 <| And.intro @wt_92 <| And.intro @vt_92 <| And.intro @st_100 <| And.intro @qt_100 <| And.intro @wt_100 <| And.intro @vt_100 <| And.intro @st_115 <| And.intro @qt_115 <| And.intro @wt_115 <| And.intro @vt_115 <| And.intro @st_201 <| And.intro @qt_201 <| And.intro @wt_201 @vt_201
theorem a6 : T.at 6 = some { ac := [(13, 0), (17, 0)], jn := [(8, (52, 44, 52)), (14, (73, 61, 73)), (25, (102, 94, 102))] } := by kernel_rfl
theorem a13 : T.at 13 = some {} := by kernel_rfl
theorem a15 : T.at 15 = some { lp := [(3, ⟨[0, 3, 4], [.s 3 3], [3], [.s 3 3]⟩)], sh := [.z 3] } := by kernel_rfl
theorem a17 : T.at 17 = some {} := by kernel_rfl
theorem a18 : T.at 18 = some { lp := [(4, ⟨[0, 1, 5], [], [], []⟩)], rt := ⟨[4], [], [], []⟩ } := by kernel_rfl
theorem a19 : T.at 19 = some { ak := [0], lp := [(2, ⟨[0, 1, 5], [.s 0 3], [0, 1], [.s 0 3]⟩)] } := by kernel_rfl
theorem a20 : T.at 20 = some { ak := [0, 1, 2, 3, 4, 5, 6], ac := [(1, 0), (2, 0), (3, 0), (4, 0), (5, 0), (6, 0), (7, 0)] } := by kernel_rfl
theorem a21 : T.at 21 = some {} := by kernel_rfl
theorem a22 : T.at 22 = some {} := by kernel_rfl
theorem a24 : T.at 24 = some { sh := [.a [0, 8, 3, 3, 5, 4, 5, 4, 0]] } := by kernel_rfl
theorem a28 : T.at 28 = some { ot := [(7, .one 0 (.one 1 (.one 2 (.one 3 (.one 4 (.one 6 (.one 7 (.one 12 (.alt (.one 5 (.alt (.one 8 (.alt (.one 9 (.one 10 (.one 11 (.one 13 (.one 14 (.one 15 (.one 16 (.done)))))))) (.one 10 (.alt (.one 9 (.one 11 (.one 13 (.one 14 (.one 15 (.one 16 (.done))))))) (.one 11 (.one 13 (.one 9 (.one 14 (.one 15 (.one 16 (.done))))))))))) (.one 10 (.alt (.one 8 (.alt (.one 9 (.one 11 (.one 13 (.one 14 (.one 15 (.one 16 (.done))))))) (.one 11 (.one 13 (.one 9 (.one 14 (.one 15 (.one 16 (.done))))))))) (.one 11 (.one 13 (.one 8 (.one 9 (.one 14 (.one 15 (.one 16 (.done)))))))))))) (.alt (.one 8 (.alt (.one 5 (.alt (.one 9 (.one 10 (.one 11 (.one 13 (.one 14 (.one 15 (.one 16 (.done)))))))) (.one 10 (.alt (.one 9 (.one 11 (.one 13 (.one 14 (.one 15 (.one 16 (.done))))))) (.one 11 (.one 13 (.one 9 (.one 14 (.one 15 (.one 16 (.done))))))))))) (.one 10 (.alt (.one 5 (.alt (.one 9 (.one 11 (.one 13 (.one 14 (.one 15 (.one 16 (.done))))))) (.one 11 (.one 13 (.one 9 (.one 14 (.one 15 (.one 16 (.done))))))))) (.one 11 (.one 13 (.one 5 (.one 9 (.one 14 (.one 15 (.one 16 (.done)))))))))))) (.one 10 (.alt (.one 5 (.alt (.one 8 (.alt (.one 9 (.one 11 (.one 13 (.one 14 (.one 15 (.one 16 (.done))))))) (.one 11 (.one 13 (.one 9 (.one 14 (.one 15 (.one 16 (.done))))))))) (.one 11 (.one 13 (.one 8 (.one 9 (.one 14 (.one 15 (.one 16 (.done)))))))))) (.alt (.one 8 (.alt (.one 5 (.alt (.one 9 (.one 11 (.one 13 (.one 14 (.one 15 (.one 16 (.done))))))) (.one 11 (.one 13 (.one 9 (.one 14 (.one 15 (.one 16 (.done))))))))) (.one 11 (.one 13 (.one 5 (.one 9 (.one 14 (.one 15 (.one 16 (.done)))))))))) (.one 11 (.one 13 (.alt (.one 5 (.one 8 (.one 9 (.one 14 (.one 15 (.one 16 (.done))))))) (.one 8 (.one 5 (.one 9 (.one 14 (.one 15 (.one 16 (.done)))))))))))))))))))))))], eb := [(7, [47])], av := [(8, [92])], jn := [(5, (44, 30, 44))], lp := [(5, ⟨[1, 3, 4, 8, 10, 12, 13], [.s 4 0, .s 8 0, .s 10 0, .c 2 1 8, .c 2 2 3, .c 2 3 3, .c 2 4 5, .c 2 5 4, .c 2 6 5, .c 2 7 4], [1, 3, 4, 8, 10, 12, 13], [.s 4 0, .s 8 0, .s 10 0, .c 2 1 8, .c 2 2 3, .c 2 3 3, .c 2 4 5, .c 2 5 4, .c 2 6 5, .c 2 7 4]⟩)], sh := [.a [0, 8, 3, 3, 5, 4, 5, 4, 0], .n] } := by kernel_rfl
theorem a29 : T.at 29 = some { ot := [(5, .one 0 (.one 1 (.one 2 (.one 3 (.one 4 (.one 6 (.one 7 (.alt (.one 5 (.one 8 (.one 9 (.one 10 (.one 11 (.done)))))) (.one 8 (.one 5 (.one 9 (.one 10 (.one 11 (.done))))))))))))))], av := [(5, [115]), (6, [100])], jn := [(3, (40, 27, 40))], sh := [.a [0, 8, 3, 3, 5, 4, 5, 4, 0], .n] } := by kernel_rfl
theorem a34 : T.at 34 = some {} := by kernel_rfl
theorem a36 : T.at 36 = some {} := by kernel_rfl
theorem a37 : T.at 37 = some { lp := [(3, ⟨[0, 3, 4], [.s 3 2], [3], [.s 3 2]⟩)], sh := [.z 2] } := by kernel_rfl
theorem a39 : T.at 39 = some { lp := [(4, ⟨[0, 1, 5], [], [], []⟩)], rt := ⟨[4], [], [], []⟩ } := by kernel_rfl
theorem a40 : T.at 40 = some { ak := [0], lp := [(2, ⟨[0, 1, 5], [.s 0 2], [0, 1], [.s 0 2]⟩)] } := by kernel_rfl
theorem a59 : T.at 59 = some { ord := [(1, [0, 1, 2, 3, 4, 6, 7, 9, 10, 11, 13, 14, 15, 17, 18, 19, 21, 22, 23, 25, 26, 27, 29, 30, 5, 8, 12, 16, 20, 24, 28, 31, 32])], eb := [(1, [5, 12, 16, 20, 24, 28])], sh := [.a [0, 8, 3, 3, 5, 4, 5, 4, 0]] } := by kernel_rfl
theorem a60 : T.at 60 = some { jn := [(1, (48, 3, 48)), (3, (86, 49, 86)), (5, (2, 87, 93))] } := by kernel_rfl
theorem a62 : T.at 62 = some {} := by kernel_rfl
theorem a63 : T.at 63 = some { sh := [.z 3] } := by kernel_rfl
theorem a64 : T.at 64 = some { ord := [(1, [0, 1, 2, 3, 4, 5, 6, 7, 8, 9, 10, 11, 12, 13, 14, 15, 16, 17, 18, 19, 20, 21, 22, 23, 24, 25, 26, 27, 28, 29, 30, 31, 32, 33, 34, 35, 36, 37, 38, 39, 40, 41, 42, 44, 45, 43, 46, 47, 48, 49, 50, 51, 52, 53])], jn := [(1, (2, 3, 56))] } := by kernel_rfl
theorem a65 : T.at 65 = some { lp := [(4, ⟨[0, 1, 5], [], [], []⟩)], rt := ⟨[4], [], [], []⟩ } := by kernel_rfl
theorem a66 : T.at 66 = some { lp := [(4, ⟨[0, 1, 5], [], [], []⟩)], rt := ⟨[4], [], [], []⟩ } := by kernel_rfl
theorem a67 : T.at 67 = some { lp := [(4, ⟨[0, 1, 5], [], [], []⟩)], rt := ⟨[4], [], [], []⟩ } := by kernel_rfl
theorem a68 : T.at 68 = some { lp := [(4, ⟨[0, 1, 5], [], [], []⟩)], rt := ⟨[4], [], [], []⟩ } := by kernel_rfl
theorem a69 : T.at 69 = some { lp := [(4, ⟨[0, 1, 5], [], [], []⟩)], rt := ⟨[4], [], [], []⟩ } := by kernel_rfl
theorem a70 : T.at 70 = some { lp := [(4, ⟨[0, 1, 5], [], [], []⟩)], rt := ⟨[4], [], [], []⟩ } := by kernel_rfl
theorem a71 : T.at 71 = some {} := by kernel_rfl
theorem a72 : T.at 72 = some { ak := [0], lp := [(2, ⟨[0, 1, 5], [.s 0 8], [0, 1], [.s 0 8]⟩)] } := by kernel_rfl
theorem a73 : T.at 73 = some { an := [(6, [0, 0, 0, 0])], ak := [0], lp := [(2, ⟨[0, 1, 5], [.s 0 3], [0, 1], [.s 0 3]⟩)] } := by kernel_rfl
theorem a74 : T.at 74 = some { ak := [0], lp := [(2, ⟨[0, 1, 5], [.s 0 5], [0, 1], [.s 0 5]⟩)] } := by kernel_rfl
theorem a75 : T.at 75 = some { ak := [0], lp := [(2, ⟨[0, 1, 5], [.s 0 4], [0, 1], [.s 0 4]⟩)] } := by kernel_rfl
theorem a76 : T.at 76 = some { ak := [0], lp := [(2, ⟨[0, 1, 5], [.s 0 5], [0, 1], [.s 0 5]⟩)] } := by kernel_rfl
theorem a77 : T.at 77 = some { ak := [0], lp := [(2, ⟨[0, 1, 5], [.s 0 4], [0, 1], [.s 0 4]⟩)] } := by kernel_rfl
theorem a78 : T.at 78 = some { lp := [(2, ⟨[0, 1, 5], [], [1], []⟩)], rt := ⟨[4], [], [], []⟩ } := by kernel_rfl
theorem a79 : T.at 79 = some { lp := [(2, ⟨[0, 1, 5], [], [1], []⟩)], rt := ⟨[4], [], [], []⟩ } := by kernel_rfl
theorem a80 : T.at 80 = some { lp := [(2, ⟨[0, 1, 5], [], [1], []⟩)], rt := ⟨[4], [], [], []⟩ } := by kernel_rfl
theorem a81 : T.at 81 = some { lp := [(2, ⟨[0, 1, 5], [], [1], []⟩)], rt := ⟨[4], [], [], []⟩ } := by kernel_rfl
theorem a82 : T.at 82 = some { lp := [(2, ⟨[0, 1, 5], [], [1], []⟩)], rt := ⟨[4], [], [], []⟩ } := by kernel_rfl
theorem a83 : T.at 83 = some { lp := [(2, ⟨[0, 1, 5], [], [1], []⟩)], rt := ⟨[4], [], [], []⟩ } := by kernel_rfl
theorem a84 : T.at 84 = some { lp := [(2, ⟨[0, 1, 5], [], [1], []⟩)], rt := ⟨[4], [], [], []⟩ } := by kernel_rfl
theorem a85 : T.at 85 = some {} := by kernel_rfl
theorem a86 : T.at 86 = some { lp := [(5, ⟨[0, 1, 5], [], [1], []⟩)], rt := ⟨[4], [], [], []⟩ } := by kernel_rfl
theorem a87 : T.at 87 = some {} := by kernel_rfl
theorem a88 : T.at 88 = some {} := by kernel_rfl
theorem a89 : T.at 89 = some {} := by kernel_rfl
theorem a90 : T.at 90 = some {} := by kernel_rfl
theorem a91 : T.at 91 = some { jn := [(1, (6, 7, 15))] } := by kernel_rfl
theorem a92 : T.at 92 = some { jn := [(1, (19, 8, 19))], sh := [.a [0, 8, 3, 3, 5, 4, 5, 4, 0], .n] } := by kernel_rfl
theorem a93 : T.at 93 = some { lp := [(3, ⟨[0, 3, 4], [.s 3 8], [3], [.s 3 8]⟩)], sh := [.z 8] } := by kernel_rfl
theorem a94 : T.at 94 = some { lp := [(3, ⟨[0, 3, 4], [.s 3 3], [3], [.s 3 3]⟩)], sh := [.z 3] } := by kernel_rfl
theorem a95 : T.at 95 = some { lp := [(3, ⟨[0, 3, 4], [.s 3 5], [3], [.s 3 5]⟩)], sh := [.z 5] } := by kernel_rfl
theorem a96 : T.at 96 = some { lp := [(3, ⟨[0, 3, 4], [.s 3 4], [3], [.s 3 4]⟩)], sh := [.z 4] } := by kernel_rfl
theorem a97 : T.at 97 = some { lp := [(3, ⟨[0, 3, 4], [.s 3 5], [3], [.s 3 5]⟩)], sh := [.z 5] } := by kernel_rfl
theorem a98 : T.at 98 = some { lp := [(3, ⟨[0, 3, 4], [.s 3 4], [3], [.s 3 4]⟩)], sh := [.z 4] } := by kernel_rfl
theorem a99 : T.at 99 = some { ord := [(1, [0, 1, 3, 4, 6, 7, 9, 10, 2, 12, 5, 8, 11, 13, 14, 15, 16, 17, 18, 19]), (2, [0, 1, 3, 4, 6, 7, 2, 9, 5, 8, 10, 11, 12, 13, 14])], sh := [.a [0, 8, 3, 3, 5, 4, 5, 4, 0]] } := by kernel_rfl
theorem a100 : T.at 100 = some { jn := [(1, (19, 8, 19))], sh := [.a [0, 8, 3, 3, 5, 4, 5, 4, 0], .n] } := by kernel_rfl
theorem a101 : T.at 101 = some { jn := [(1, (6, 7, 15))] } := by kernel_rfl
theorem a103 : T.at 103 = some { sh := [.z 2] } := by kernel_rfl
theorem a105 : T.at 105 = some { jn := [(1, (5, 6, 19)), (3, (19, 20, 30))] } := by kernel_rfl
theorem a106 : T.at 106 = some {} := by kernel_rfl
theorem a107 : T.at 107 = some { sh := [.z 2] } := by kernel_rfl
theorem a109 : T.at 109 = some { jn := [(1, (5, 6, 19)), (3, (19, 20, 30))] } := by kernel_rfl
theorem a111 : T.at 111 = some { ot := [(9, .one 1 (.one 2 (.one 3 (.one 8 (.one 9 (.one 10 (.alt (.one 0 (.alt (.one 4 (.one 5 (.one 6 (.one 7 (.one 11 (.one 12 (.done))))))) (.one 5 (.alt (.one 4 (.one 6 (.one 7 (.one 11 (.one 12 (.done)))))) (.one 6 (.one 4 (.one 7 (.one 11 (.one 12 (.done)))))))))) (.one 5 (.alt (.one 0 (.alt (.one 4 (.one 6 (.one 7 (.one 11 (.one 12 (.done)))))) (.one 6 (.one 4 (.one 7 (.one 11 (.one 12 (.done)))))))) (.one 6 (.one 0 (.one 4 (.one 7 (.one 11 (.one 12 (.done))))))))))))))))], jn := [(6, (7, 19, 40)), (10, (67, 62, 67))], lp := [(4, ⟨[0, 3, 6, 7, 8], [.s 3 0], [0, 3, 6, 7], [.s 3 0]⟩)], sh := [.z 5, .n] } := by kernel_rfl
theorem a112 : T.at 112 = some { jn := [(4, (22, 12, 22))], lp := [(2, ⟨[0, 1, 5], [], [], []⟩)], rt := ⟨[4], [], [], []⟩ } := by kernel_rfl
theorem a113 : T.at 113 = some { av := [(7, [201])], jn := [(2, (24, 10, 24)), (5, (39, 26, 39))], lp := [(5, ⟨[0, 3, 6, 7], [.s 3 0, .s 6 5], [0, 3, 6, 7], [.s 3 0, .s 6 5]⟩)], sh := [.z 5, .n] } := by kernel_rfl
theorem a114 : T.at 114 = some {} := by kernel_rfl
theorem a117 : T.at 117 = some { lp := [(2, ⟨[0, 1, 5], [], [], []⟩)], rt := ⟨[4], [], [], []⟩ } := by kernel_rfl
theorem a133 : T.at 133 = some {} := by kernel_rfl
theorem a134 : T.at 134 = some {} := by kernel_rfl
theorem a139 : T.at 139 = some {} := by kernel_rfl
theorem a146 : T.at 146 = some {} := by kernel_rfl
theorem a147 : T.at 147 = some { ord := [(5, [0, 1, 2, 3, 4, 5, 6, 7, 8, 9, 10, 11, 13, 14, 15, 16, 17, 12, 18, 19, 20, 21])], eb := [(5, [18])], lp := [(3, ⟨[0, 3, 4], [.s 3 3], [3], [.s 3 3]⟩)], sh := [.z 3] } := by kernel_rfl
theorem a148 : T.at 148 = some { jn := [(4, (35, 10, 35))], lp := [(2, ⟨[0, 3], [], [0], []⟩)], rt := ⟨[2], [], [], []⟩ } := by kernel_rfl
theorem a149 : T.at 149 = some { jn := [(4, (61, 10, 61))], lp := [(2, ⟨[0, 3], [], [0], []⟩)], rt := ⟨[2], [], [], []⟩ } := by kernel_rfl
theorem a150 : T.at 150 = some { jn := [(4, (53, 11, 53)), (9, (77, 59, 77))], lp := [(2, ⟨[0, 3], [], [0], []⟩), (7, ⟨[0, 3, 4], [], [0, 3], []⟩)], rt := ⟨[2], [], [], []⟩ } := by kernel_rfl
theorem a151 : T.at 151 = some { jn := [(5, (58, 16, 58)), (10, (84, 64, 84))], lp := [(2, ⟨[0, 3], [], [0], []⟩), (8, ⟨[0, 3, 4, 5], [.s 4 0], [0, 3], []⟩)], rt := ⟨[2], [], [], []⟩ } := by kernel_rfl
theorem a152 : T.at 152 = some { jn := [(3, (15, 7, 15)), (7, (67, 25, 67)), (10, (96, 73, 96))], lp := [(3, ⟨[0, 3, 4], [], [0], []⟩)], rt := ⟨[2], [], [], []⟩ } := by kernel_rfl
theorem a153 : T.at 153 = some { jn := [(5, (58, 15, 58))], lp := [(2, ⟨[0, 3], [], [0], []⟩)], rt := ⟨[2], [], [], []⟩ } := by kernel_rfl
theorem a154 : T.at 154 = some { ord := [(13, [0, 1, 2, 3, 4, 5, 6, 7, 8, 9, 10, 11, 14, 15, 12, 13, 16, 17, 18, 19, 20, 21, 22, 23, 24, 25, 26, 27, 28, 29])], jn := [(13, (77, 48, 77)), (18, (103, 85, 103))], lp := [(5, ⟨[1, 3, 4], [.s 1 0, .s 3 1], [1, 3], [.s 1 0, .s 3 1]⟩), (10, ⟨[1, 3, 5], [.s 1 0, .s 3 1], [1], [.s 1 0]⟩), (16, ⟨[1, 7], [.s 1 0], [], []⟩)], rt := ⟨[2], [], [], []⟩ } := by kernel_rfl
theorem a155 : T.at 155 = some { ord := [(8, [0, 1, 2, 3, 4, 5, 6, 7, 8, 9, 10, 11, 12, 13, 14, 15, 16, 17, 18, 19, 20, 21, 22, 23, 24, 25, 26, 27, 28, 29, 30, 32, 33, 34, 35, 36, 38, 31, 37, 39, 40, 41, 42, 43, 44, 45, 46, 47])], jn := [(8, (77, 30, 77))], lp := [(4, ⟨[1, 3], [.s 1 0], [], []⟩)], rt := ⟨[2], [], [], []⟩ } := by kernel_rfl
theorem a156 : T.at 156 = some { jn := [(6, (34, 15, 34))], lp := [(4, ⟨[0, 8, 9, 10], [], [], []⟩)], rt := ⟨[2], [], [], []⟩ } := by kernel_rfl
theorem a157 : T.at 157 = some { jn := [(6, (51, 15, 51))], lp := [(4, ⟨[0, 8, 9, 10], [], [], []⟩)], rt := ⟨[2], [], [], []⟩ } := by kernel_rfl
theorem a158 : T.at 158 = some { jn := [(6, (54, 15, 54))], lp := [(4, ⟨[0, 8, 9, 10], [], [], []⟩)], rt := ⟨[2], [], [], []⟩ } := by kernel_rfl
theorem a159 : T.at 159 = some { jn := [(6, (59, 17, 59)), (11, (82, 68, 82))], lp := [(4, ⟨[0, 10, 11, 12], [], [], []⟩), (9, ⟨[0, 4, 10, 11, 12, 62, 63, 64], [.s 4 0], [0, 10, 11, 12], []⟩)], rt := ⟨[2], [], [], []⟩ } := by kernel_rfl
theorem a160 : T.at 160 = some { jn := [(7, (61, 17, 61)), (13, (83, 73, 83))], lp := [(5, ⟨[0, 3, 10, 11, 12], [], [], []⟩)], rt := ⟨[2], [], [], []⟩ } := by kernel_rfl
theorem a161 : T.at 161 = some { jn := [(6, (58, 15, 58))], lp := [(4, ⟨[0, 8, 9, 10], [], [], []⟩)], rt := ⟨[2], [], [], []⟩ } := by kernel_rfl
theorem a162 : T.at 162 = some { ord := [(7, [0, 1, 2, 3, 4, 5, 6, 7, 8, 9, 10, 11, 12, 13, 14, 15, 18, 19, 20, 21, 16, 17, 22, 23, 24])], jn := [(7, (54, 30, 54)), (13, (73, 63, 73))], lp := [(5, ⟨[1, 3, 23, 24, 25], [.s 1 0, .s 3 1], [1, 3], [.s 1 0, .s 3 1]⟩), (11, ⟨[1, 3, 57, 58, 59], [.s 1 0, .s 3 1], [1, 3], [.s 1 0, .s 3 1]⟩), (17, ⟨[1, 75, 76, 77], [.s 1 0, .s 75 1], [], []⟩)], rt := ⟨[2], [], [], []⟩ } := by kernel_rfl
theorem a163 : T.at 163 = some { ord := [(7, [0, 1, 2, 3, 4, 5, 6, 7, 8, 9, 10, 11, 12, 13, 14, 15, 16, 17, 18, 19, 20, 21, 22, 24, 26, 27, 23, 25, 28, 29, 30])], jn := [(7, (56, 26, 56))], lp := [(4, ⟨[1, 14, 15, 16], [.s 1 0], [], []⟩)], rt := ⟨[2], [], [], []⟩ } := by kernel_rfl
theorem a164 : T.at 164 = some { lp := [(3, ⟨[1, 3, 13, 14, 15], [.s 1 0], [1, 3], [.s 1 0]⟩), (8, ⟨[1, 3, 25, 26, 27], [.s 1 0], [1, 3], [.s 1 0]⟩), (13, ⟨[1, 3, 37, 38, 39], [.s 1 0], [1, 3], [.s 1 0]⟩), (18, ⟨[3, 49, 50, 51], [], [3], []⟩)] } := by kernel_rfl
theorem a165 : T.at 165 = some {} := by kernel_rfl
theorem a166 : T.at 166 = some {} := by kernel_rfl
theorem a167 : T.at 167 = some {} := by kernel_rfl
theorem a168 : T.at 168 = some {} := by kernel_rfl
theorem a169 : T.at 169 = some {} := by kernel_rfl
theorem a170 : T.at 170 = some { lp := [(2, ⟨[0, 1, 5], [], [1], []⟩)], rt := ⟨[4], [], [], []⟩ } := by kernel_rfl
theorem a171 : T.at 171 = some {} := by kernel_rfl
theorem a172 : T.at 172 = some { sh := [.a [0, 2, 0]] } := by kernel_rfl
theorem a173 : T.at 173 = some {} := by kernel_rfl
theorem a174 : T.at 174 = some {} := by kernel_rfl
theorem a175 : T.at 175 = some {} := by kernel_rfl
theorem a176 : T.at 176 = some {} := by kernel_rfl
theorem a177 : T.at 177 = some { sh := [.z 8] } := by kernel_rfl
theorem a178 : T.at 178 = some { lp := [(3, ⟨[3, 7, 8, 9], [.s 3 3], [3], [.s 3 3]⟩)], sh := [.z 3] } := by kernel_rfl
theorem a179 : T.at 179 = some { sh := [.z 5] } := by kernel_rfl
theorem a180 : T.at 180 = some { sh := [.z 4] } := by kernel_rfl
theorem a181 : T.at 181 = some { sh := [.z 5] } := by kernel_rfl
theorem a182 : T.at 182 = some { sh := [.z 4] } := by kernel_rfl
theorem a183 : T.at 183 = some {} := by kernel_rfl
theorem a184 : T.at 184 = some { lp := [(2, ⟨[0, 1, 5], [], [], []⟩)], rt := ⟨[4], [], [], []⟩ } := by kernel_rfl
theorem a187 : T.at 187 = some { jn := [(1, (2, 3, 26))] } := by kernel_rfl
theorem a188 : T.at 188 = some { jn := [(4, (43, 10, 43))], lp := [(2, ⟨[0, 3], [], [0], []⟩)], rt := ⟨[2], [], [], []⟩ } := by kernel_rfl
theorem a189 : T.at 189 = some {} := by kernel_rfl
theorem a190 : T.at 190 = some { lp := [(2, ⟨[0, 1, 7, 8], [], [], []⟩)], rt := ⟨[4], [], [], []⟩ } := by kernel_rfl
theorem a191 : T.at 191 = some {} := by kernel_rfl
theorem a192 : T.at 192 = some {} := by kernel_rfl
theorem a193 : T.at 193 = some { sh := [.z 2] } := by kernel_rfl
theorem a196 : T.at 196 = some { jn := [(1, (2, 3, 26))] } := by kernel_rfl
theorem a197 : T.at 197 = some { jn := [(6, (39, 15, 39))], lp := [(4, ⟨[0, 8, 9, 10], [], [], []⟩)], rt := ⟨[2], [], [], []⟩ } := by kernel_rfl
theorem a198 : T.at 198 = some {} := by kernel_rfl
theorem a199 : T.at 199 = some {} := by kernel_rfl
theorem a200 : T.at 200 = some { jn := [(1, (3, 4, 16))] } := by kernel_rfl
theorem a202 : T.at 202 = some { lp := [(2, ⟨[0, 1, 7, 8], [], [], []⟩)], rt := ⟨[4], [], [], []⟩ } := by kernel_rfl
theorem a203 : T.at 203 = some {} := by kernel_rfl
theorem a208 : T.at 208 = some { jn := [(1, (2, 3, 26))] } := by kernel_rfl
theorem a209 : T.at 209 = some {} := by kernel_rfl
theorem a210 : T.at 210 = some {} := by kernel_rfl
theorem a212 : T.at 212 = some { jn := [(1, (2, 3, 26))] } := by kernel_rfl
theorem a217 : T.at 217 = some {} := by kernel_rfl
theorem a221 : T.at 221 = some {} := by kernel_rfl
theorem a228 : T.at 228 = some {} := by kernel_rfl
theorem a229 : T.at 229 = some { jn := [(1, (2, 3, 21))] } := by kernel_rfl
theorem a230 : T.at 230 = some { lp := [(3, ⟨[0, 1, 2, 7, 8], [], [7], []⟩)] } := by kernel_rfl
theorem a231 : T.at 231 = some { jn := [(3, (16, 9, 16)), (6, (42, 28, 42))], lp := [(3, ⟨[0, 1, 5, 6], [.s 5 1], [5], [.s 5 1]⟩)], sh := [.z 1] } := by kernel_rfl
theorem a232 : T.at 232 = some { lp := [(2, ⟨[0, 1, 5], [], [], []⟩)], rt := ⟨[4], [], [], []⟩ } := by kernel_rfl
theorem a233 : T.at 233 = some { jn := [(1, (2, 3, 21))] } := by kernel_rfl
theorem a234 : T.at 234 = some {} := by kernel_rfl
theorem a235 : T.at 235 = some { lp := [(2, ⟨[0, 1, 5], [], [], []⟩)], rt := ⟨[4], [], [], []⟩ } := by kernel_rfl
theorem a236 : T.at 236 = some { ac := [(10, 0)], jn := [(7, (36, 20, 36))], lp := [(5, ⟨[0, 1, 5, 13, 14, 15], [.s 5 1], [5], [.s 5 1]⟩)], sh := [.z 1] } := by kernel_rfl
theorem a237 : T.at 237 = some {} := by kernel_rfl
theorem a238 : T.at 238 = some {} := by kernel_rfl
theorem a239 : T.at 239 = some { lp := [(2, ⟨[0, 1, 7, 8], [], [], []⟩)], rt := ⟨[4], [], [], []⟩ } := by kernel_rfl
theorem a241 : T.at 241 = some { lp := [(2, ⟨[0, 1, 7, 8], [], [], []⟩)], rt := ⟨[4], [], [], []⟩ } := by kernel_rfl
theorem a242 : T.at 242 = some {} := by kernel_rfl
theorem a247 : T.at 247 = some { lp := [(2, ⟨[0, 1, 7, 8], [], [], []⟩)], rt := ⟨[4], [], [], []⟩ } := by kernel_rfl
theorem a248 : T.at 248 = some {} := by kernel_rfl
theorem a251 : T.at 251 = some { lp := [(3, ⟨[0, 3, 4], [], [3], []⟩)] } := by kernel_rfl
theorem a256 : T.at 256 = some { lp := [(3, ⟨[3, 6, 7, 8], [], [3], []⟩)] } := by kernel_rfl
theorem a264 : T.at 264 = some { ot := [(6, .one 1 (.one 2 (.one 3 (.one 5 (.one 8 (.one 9 (.one 10 (.alt (.one 0 (.alt (.one 4 (.one 6 (.one 7 (.one 11 (.one 12 (.done)))))) (.one 6 (.one 4 (.one 7 (.one 11 (.one 12 (.done)))))))) (.one 6 (.one 0 (.one 4 (.one 7 (.one 11 (.one 12 (.done)))))))))))))))], jn := [(2, (17, 6, 17)), (4, (31, 20, 31))], lp := [(2, ⟨[0, 1, 5], [], [0, 1, 5], []⟩)], sh := [.z 1] } := by kernel_rfl
theorem a266 : T.at 266 = some { lp := [(2, ⟨[0, 1, 7, 8], [], [], []⟩)], rt := ⟨[4], [], [], []⟩ } := by kernel_rfl
theorem a267 : T.at 267 = some {} := by kernel_rfl
theorem a274 : T.at 274 = some {} := by kernel_rfl
theorem a283 : T.at 283 = some {} := by kernel_rfl
end Go.Proofs.YtcdffihcfeajfaaGreat
