/- Types and values told as the machine has them. No condition. -/
import Derived.Test.YtlnajgoeoklioaaGreatEv3
import Derived.Test.YtlnajgoeoklioaaGreatFn
import Derived.Test.YtlnajgoeoklioaaGreatProg
import Derived.KernelRfl
namespace Go.Proofs.YtlnajgoeoklioaaGreat
open Go Go.Proofs Go.Proofs.YtlnajgoeoklioaaGreat.Am
set_option linter.unusedVariables false
set_option linter.unusedSimpArgs false
set_option linter.defProp false
set_option maxRecDepth 100000
def c_i64 (x : Int) : List AV := [.i .i64 x]
theorem e_c_i64 (x : Int) : c_i64 x = [.i .i64 x] := _root_.id rfl
instance (x : Int) : EncR c_i64 [.i .i64 x] x := ⟨rfl⟩
theorem ld_i64 (xs : List Int) : lendRows (xs.map c_i64) = xs.map c_i64 := t_lend (fun x => by simp only [e_c_i64, lendRow, lendc]) xs
theorem cl_i64 (xs : List Int) : cleanRows (xs.map c_i64) = true := t_clean (fun x => by simp only [e_c_i64, cleans, AV.clean, Bool.and_self]) xs
theorem ib_i64 {R : List (List AV)} {xs : List Int} (i : Int) [h : EncL c_i64 R xs] : inb R i = inb xs i := by rw [h.eq, t_inb]
theorem ro_i64 {R : List (List AV)} {xs : List Int} (i : Int) [h : EncL c_i64 R xs] (hi : inb xs i = true) : rowOf R i.toNat = c_i64 (gt xs i) := by rw [h.eq, t_row xs i hi]
def c_u8 (x : Int) : List AV := [.i .u8 x]
theorem e_c_u8 (x : Int) : c_u8 x = [.i .u8 x] := _root_.id rfl
instance (x : Int) : EncR c_u8 [.i .u8 x] x := ⟨rfl⟩
theorem ld_u8 (xs : List Int) : lendRows (xs.map c_u8) = xs.map c_u8 := t_lend (fun x => by simp only [e_c_u8, lendRow, lendc]) xs
theorem cl_u8 (xs : List Int) : cleanRows (xs.map c_u8) = true := t_clean (fun x => by simp only [e_c_u8, cleans, AV.clean, Bool.and_self]) xs
theorem ib_u8 {R : List (List AV)} {xs : List Int} (i : Int) [h : EncL c_u8 R xs] : inb R i = inb xs i := by rw [h.eq, t_inb]
theorem ro_u8 {R : List (List AV)} {xs : List Int} (i : Int) [h : EncL c_u8 R xs] (hi : inb xs i = true) : rowOf R i.toNat = c_u8 (gt xs i) := by rw [h.eq, t_row xs i hi]
def c_b (x : Bool) : List AV := [.b x]
theorem e_c_b (x : Bool) : c_b x = [.b x] := _root_.id rfl
instance (x : Bool) : EncR c_b [.b x] x := ⟨rfl⟩
theorem ld_b (xs : List Bool) : lendRows (xs.map c_b) = xs.map c_b := t_lend (fun x => by simp only [e_c_b, lendRow, lendc]) xs
theorem cl_b (xs : List Bool) : cleanRows (xs.map c_b) = true := t_clean (fun x => by simp only [e_c_b, cleans, AV.clean, Bool.and_self]) xs
theorem ib_b {R : List (List AV)} {xs : List Bool} (i : Int) [h : EncL c_b R xs] : inb R i = inb xs i := by rw [h.eq, t_inb]
theorem ro_b {R : List (List AV)} {xs : List Bool} (i : Int) [h : EncL c_b R xs] (hi : inb xs i = true) : rowOf R i.toNat = c_b (gt xs i) := by rw [h.eq, t_row xs i hi]
def c_s (x : List UInt8) : List AV := [.s x]
theorem e_c_s (x : List UInt8) : c_s x = [.s x] := _root_.id rfl
instance (x : List UInt8) : EncR c_s [.s x] x := ⟨rfl⟩
theorem ld_s (xs : List (List UInt8)) : lendRows (xs.map c_s) = xs.map c_s := t_lend (fun x => by simp only [e_c_s, lendRow, lendc]) xs
theorem cl_s (xs : List (List UInt8)) : cleanRows (xs.map c_s) = true := t_clean (fun x => by simp only [e_c_s, cleans, AV.clean, Bool.and_self]) xs
theorem ib_s {R : List (List AV)} {xs : List (List UInt8)} (i : Int) [h : EncL c_s R xs] : inb R i = inb xs i := by rw [h.eq, t_inb]
theorem ro_s {R : List (List AV)} {xs : List (List UInt8)} (i : Int) [h : EncL c_s R xs] (hi : inb xs i = true) : rowOf R i.toNat = c_s (gt xs i) := by rw [h.eq, t_row xs i hi]
def cThing (x : Thing) : List AV := [.i .i64 x.Id, .i .i64 x.Kind, .i .i64 x.Colour, .i .i64 x.Size, .i .i64 x.Worth]
theorem e_cThing (x : Thing) : cThing x = [.i .i64 x.Id, .i .i64 x.Kind, .i .i64 x.Colour, .i .i64 x.Size, .i .i64 x.Worth] := _root_.id rfl
instance (yxId : Int) (yxKind : Int) (yxColour : Int) (yxSize : Int) (yxWorth : Int)  : EncR cThing [.i .i64 yxId, .i .i64 yxKind, .i .i64 yxColour, .i .i64 yxSize, .i .i64 yxWorth] (⟨yxId, yxKind, yxColour, yxSize, yxWorth⟩ : Thing) := ⟨by rfl⟩
theorem ld_Thing (xs : List Thing) : lendRows (xs.map cThing) = xs.map cThing := t_lend (fun x => by simp only [e_cThing, lendRow, lendc]) xs
theorem cl_Thing (xs : List Thing) : cleanRows (xs.map cThing) = true := t_clean (fun x => by simp only [e_cThing, cleans, AV.clean, Bool.and_self]) xs
theorem et_Thing (x : Thing) : (⟨x.Id, x.Kind, x.Colour, x.Size, x.Worth⟩ : Thing) = x := _root_.id rfl
def cFind (x : Find) : List AV := [.i .i64 x.Thing.Id, .i .i64 x.Thing.Kind, .i .i64 x.Thing.Colour, .i .i64 x.Thing.Size, .i .i64 x.Thing.Worth, .i .i64 x.Place, .i .i64 x.At, .i .i64 x.Finder]
theorem e_cFind (x : Find) : cFind x = [.i .i64 x.Thing.Id, .i .i64 x.Thing.Kind, .i .i64 x.Thing.Colour, .i .i64 x.Thing.Size, .i .i64 x.Thing.Worth, .i .i64 x.Place, .i .i64 x.At, .i .i64 x.Finder] := _root_.id rfl
instance (yxThingxId : Int) (yxThingxKind : Int) (yxThingxColour : Int) (yxThingxSize : Int) (yxThingxWorth : Int) (yxPlace : Int) (yxAt : Int) (yxFinder : Int)  : EncR cFind [.i .i64 yxThingxId, .i .i64 yxThingxKind, .i .i64 yxThingxColour, .i .i64 yxThingxSize, .i .i64 yxThingxWorth, .i .i64 yxPlace, .i .i64 yxAt, .i .i64 yxFinder] (⟨⟨yxThingxId, yxThingxKind, yxThingxColour, yxThingxSize, yxThingxWorth⟩, yxPlace, yxAt, yxFinder⟩ : Find) := ⟨by rfl⟩
theorem ld_Find (xs : List Find) : lendRows (xs.map cFind) = xs.map cFind := t_lend (fun x => by simp only [e_cFind, lendRow, lendc]) xs
theorem cl_Find (xs : List Find) : cleanRows (xs.map cFind) = true := t_clean (fun x => by simp only [e_cFind, cleans, AV.clean, Bool.and_self]) xs
theorem et_Find (x : Find) : (⟨x.Thing, x.Place, x.At, x.Finder⟩ : Find) = x := _root_.id rfl
def cMark (x : Mark) : List AV := [.i .i64 x.Question, .i .i64 x.Answer]
theorem e_cMark (x : Mark) : cMark x = [.i .i64 x.Question, .i .i64 x.Answer] := _root_.id rfl
instance (yxQuestion : Int) (yxAnswer : Int)  : EncR cMark [.i .i64 yxQuestion, .i .i64 yxAnswer] (⟨yxQuestion, yxAnswer⟩ : Mark) := ⟨by rfl⟩
theorem ld_Mark (xs : List Mark) : lendRows (xs.map cMark) = xs.map cMark := t_lend (fun x => by simp only [e_cMark, lendRow, lendc]) xs
theorem cl_Mark (xs : List Mark) : cleanRows (xs.map cMark) = true := t_clean (fun x => by simp only [e_cMark, cleans, AV.clean, Bool.and_self]) xs
theorem et_Mark (x : Mark) : (⟨x.Question, x.Answer⟩ : Mark) = x := _root_.id rfl
def cSecret (x : Secret) : List AV := [.i .i64 x.Thing, .imm 2 (x.Marks.map cMark), .i .i64 x.Salt]
theorem e_cSecret (x : Secret) : cSecret x = [.i .i64 x.Thing, .imm 2 (x.Marks.map cMark), .i .i64 x.Salt] := _root_.id rfl
instance (yxThing : Int) {R1} {yxMarks : List Mark} (yxSalt : Int) [H1 : EncL cMark R1 yxMarks] : EncR cSecret [.i .i64 yxThing, .imm 2 R1, .i .i64 yxSalt] (⟨yxThing, yxMarks, yxSalt⟩ : Secret) := ⟨by obtain ⟨rfl⟩ := H1; rfl⟩
def cSecretO (x : Secret) : List AV := [.i .i64 x.Thing, .own 2 (x.Marks.map cMark), .i .i64 x.Salt]
theorem e_cSecretO (x : Secret) : cSecretO x = [.i .i64 x.Thing, .own 2 (x.Marks.map cMark), .i .i64 x.Salt] := _root_.id rfl
instance (yxThing : Int) {R1} {yxMarks : List Mark} (yxSalt : Int) [H1 : EncL cMark R1 yxMarks] : EncR cSecretO [.i .i64 yxThing, .own 2 R1, .i .i64 yxSalt] (⟨yxThing, yxMarks, yxSalt⟩ : Secret) := ⟨by obtain ⟨rfl⟩ := H1; rfl⟩
theorem ld_Secret (xs : List Secret) : lendRows (xs.map cSecretO) = xs.map cSecret := t_lend (fun x => by simp only [e_cSecretO, e_cSecret, lendRow, lendc, ld_Mark]) xs
theorem cl_Secret (xs : List Secret) : cleanRows (xs.map cSecretO) = true := t_clean (fun x => by simp only [e_cSecretO, cleans, AV.clean, Bool.and_self, cl_Mark]) xs
theorem et_Secret (x : Secret) : (⟨x.Thing, x.Marks, x.Salt⟩ : Secret) = x := _root_.id rfl
def cSlot (x : Slot) : List AV := [.i .i64 x.Id, .i .i64 x.Size, .i .i64 x.Thing]
theorem e_cSlot (x : Slot) : cSlot x = [.i .i64 x.Id, .i .i64 x.Size, .i .i64 x.Thing] := _root_.id rfl
instance (yxId : Int) (yxSize : Int) (yxThing : Int)  : EncR cSlot [.i .i64 yxId, .i .i64 yxSize, .i .i64 yxThing] (⟨yxId, yxSize, yxThing⟩ : Slot) := ⟨by rfl⟩
theorem ld_Slot (xs : List Slot) : lendRows (xs.map cSlot) = xs.map cSlot := t_lend (fun x => by simp only [e_cSlot, lendRow, lendc]) xs
theorem cl_Slot (xs : List Slot) : cleanRows (xs.map cSlot) = true := t_clean (fun x => by simp only [e_cSlot, cleans, AV.clean, Bool.and_self]) xs
theorem et_Slot (x : Slot) : (⟨x.Id, x.Size, x.Thing⟩ : Slot) = x := _root_.id rfl
def cClaim (x : Claim) : List AV := [.i .i64 x.Id, .i .i64 x.Who, .i .i64 x.Thing, .i .i64 x.At, .i .i64 x.State]
theorem e_cClaim (x : Claim) : cClaim x = [.i .i64 x.Id, .i .i64 x.Who, .i .i64 x.Thing, .i .i64 x.At, .i .i64 x.State] := _root_.id rfl
instance (yxId : Int) (yxWho : Int) (yxThing : Int) (yxAt : Int) (yxState : Int)  : EncR cClaim [.i .i64 yxId, .i .i64 yxWho, .i .i64 yxThing, .i .i64 yxAt, .i .i64 yxState] (⟨yxId, yxWho, yxThing, yxAt, yxState⟩ : Claim) := ⟨by rfl⟩
theorem ld_Claim (xs : List Claim) : lendRows (xs.map cClaim) = xs.map cClaim := t_lend (fun x => by simp only [e_cClaim, lendRow, lendc]) xs
theorem cl_Claim (xs : List Claim) : cleanRows (xs.map cClaim) = true := t_clean (fun x => by simp only [e_cClaim, cleans, AV.clean, Bool.and_self]) xs
theorem et_Claim (x : Claim) : (⟨x.Id, x.Who, x.Thing, x.At, x.State⟩ : Claim) = x := _root_.id rfl
def cTrial (x : Trial) : List AV := [.i .i64 x.Claim, .i .i64 x.Asked, .i .i64 x.Right, .i .i64 x.Wrong]
theorem e_cTrial (x : Trial) : cTrial x = [.i .i64 x.Claim, .i .i64 x.Asked, .i .i64 x.Right, .i .i64 x.Wrong] := _root_.id rfl
instance (yxClaim : Int) (yxAsked : Int) (yxRight : Int) (yxWrong : Int)  : EncR cTrial [.i .i64 yxClaim, .i .i64 yxAsked, .i .i64 yxRight, .i .i64 yxWrong] (⟨yxClaim, yxAsked, yxRight, yxWrong⟩ : Trial) := ⟨by rfl⟩
theorem ld_Trial (xs : List Trial) : lendRows (xs.map cTrial) = xs.map cTrial := t_lend (fun x => by simp only [e_cTrial, lendRow, lendc]) xs
theorem cl_Trial (xs : List Trial) : cleanRows (xs.map cTrial) = true := t_clean (fun x => by simp only [e_cTrial, cleans, AV.clean, Bool.and_self]) xs
theorem et_Trial (x : Trial) : (⟨x.Claim, x.Asked, x.Right, x.Wrong⟩ : Trial) = x := _root_.id rfl
def cHand (x : Hand) : List AV := [.i .i64 x.Thing, .i .i64 x.Holder, .i .i64 x.Who, .i .i64 x.At, .i .i64 x.Seal]
theorem e_cHand (x : Hand) : cHand x = [.i .i64 x.Thing, .i .i64 x.Holder, .i .i64 x.Who, .i .i64 x.At, .i .i64 x.Seal] := _root_.id rfl
instance (yxThing : Int) (yxHolder : Int) (yxWho : Int) (yxAt : Int) (yxSeal : Int)  : EncR cHand [.i .i64 yxThing, .i .i64 yxHolder, .i .i64 yxWho, .i .i64 yxAt, .i .i64 yxSeal] (⟨yxThing, yxHolder, yxWho, yxAt, yxSeal⟩ : Hand) := ⟨by rfl⟩
theorem ld_Hand (xs : List Hand) : lendRows (xs.map cHand) = xs.map cHand := t_lend (fun x => by simp only [e_cHand, lendRow, lendc]) xs
theorem cl_Hand (xs : List Hand) : cleanRows (xs.map cHand) = true := t_clean (fun x => by simp only [e_cHand, cleans, AV.clean, Bool.and_self]) xs
theorem et_Hand (x : Hand) : (⟨x.Thing, x.Holder, x.Who, x.At, x.Seal⟩ : Hand) = x := _root_.id rfl
def cEntry (x : Entry) : List AV := [.i .i64 x.From, .i .i64 x.To, .i .i64 x.Cents, .i .i64 x.At]
theorem e_cEntry (x : Entry) : cEntry x = [.i .i64 x.From, .i .i64 x.To, .i .i64 x.Cents, .i .i64 x.At] := _root_.id rfl
instance (yxFrom : Int) (yxTo : Int) (yxCents : Int) (yxAt : Int)  : EncR cEntry [.i .i64 yxFrom, .i .i64 yxTo, .i .i64 yxCents, .i .i64 yxAt] (⟨yxFrom, yxTo, yxCents, yxAt⟩ : Entry) := ⟨by rfl⟩
theorem ld_Entry (xs : List Entry) : lendRows (xs.map cEntry) = xs.map cEntry := t_lend (fun x => by simp only [e_cEntry, lendRow, lendc]) xs
theorem cl_Entry (xs : List Entry) : cleanRows (xs.map cEntry) = true := t_clean (fun x => by simp only [e_cEntry, cleans, AV.clean, Bool.and_self]) xs
theorem et_Entry (x : Entry) : (⟨x.From, x.To, x.Cents, x.At⟩ : Entry) = x := _root_.id rfl
def cHouse (x : House) : List AV := [.i .i64 x.No, .imm 8 (x.Finds.map cFind), .imm 3 (x.Secrets.map cSecret), .imm 3 (x.Slots.map cSlot), .imm 5 (x.Claims.map cClaim), .imm 4 (x.Trials.map cTrial), .imm 5 (x.Chain.map cHand), .imm 4 (x.Book.map cEntry), .i .i64 x.Now]
theorem e_cHouse (x : House) : cHouse x = [.i .i64 x.No, .imm 8 (x.Finds.map cFind), .imm 3 (x.Secrets.map cSecret), .imm 3 (x.Slots.map cSlot), .imm 5 (x.Claims.map cClaim), .imm 4 (x.Trials.map cTrial), .imm 5 (x.Chain.map cHand), .imm 4 (x.Book.map cEntry), .i .i64 x.Now] := _root_.id rfl
instance (yxNo : Int) {R1} {yxFinds : List Find} {R2} {yxSecrets : List Secret} {R3} {yxSlots : List Slot} {R4} {yxClaims : List Claim} {R5} {yxTrials : List Trial} {R6} {yxChain : List Hand} {R7} {yxBook : List Entry} (yxNow : Int) [H1 : EncL cFind R1 yxFinds] [H2 : EncL cSecret R2 yxSecrets] [H3 : EncL cSlot R3 yxSlots] [H4 : EncL cClaim R4 yxClaims] [H5 : EncL cTrial R5 yxTrials] [H6 : EncL cHand R6 yxChain] [H7 : EncL cEntry R7 yxBook] : EncR cHouse [.i .i64 yxNo, .imm 8 R1, .imm 3 R2, .imm 3 R3, .imm 5 R4, .imm 4 R5, .imm 5 R6, .imm 4 R7, .i .i64 yxNow] (⟨yxNo, yxFinds, yxSecrets, yxSlots, yxClaims, yxTrials, yxChain, yxBook, yxNow⟩ : House) := ⟨by obtain ⟨rfl⟩ := H1; obtain ⟨rfl⟩ := H2; obtain ⟨rfl⟩ := H3; obtain ⟨rfl⟩ := H4; obtain ⟨rfl⟩ := H5; obtain ⟨rfl⟩ := H6; obtain ⟨rfl⟩ := H7; rfl⟩
def cHouseO (x : House) : List AV := [.i .i64 x.No, .own 8 (x.Finds.map cFind), .own 3 (x.Secrets.map cSecretO), .own 3 (x.Slots.map cSlot), .own 5 (x.Claims.map cClaim), .own 4 (x.Trials.map cTrial), .own 5 (x.Chain.map cHand), .own 4 (x.Book.map cEntry), .i .i64 x.Now]
theorem e_cHouseO (x : House) : cHouseO x = [.i .i64 x.No, .own 8 (x.Finds.map cFind), .own 3 (x.Secrets.map cSecretO), .own 3 (x.Slots.map cSlot), .own 5 (x.Claims.map cClaim), .own 4 (x.Trials.map cTrial), .own 5 (x.Chain.map cHand), .own 4 (x.Book.map cEntry), .i .i64 x.Now] := _root_.id rfl
instance (yxNo : Int) {R1} {yxFinds : List Find} {R2} {yxSecrets : List Secret} {R3} {yxSlots : List Slot} {R4} {yxClaims : List Claim} {R5} {yxTrials : List Trial} {R6} {yxChain : List Hand} {R7} {yxBook : List Entry} (yxNow : Int) [H1 : EncL cFind R1 yxFinds] [H2 : EncL cSecretO R2 yxSecrets] [H3 : EncL cSlot R3 yxSlots] [H4 : EncL cClaim R4 yxClaims] [H5 : EncL cTrial R5 yxTrials] [H6 : EncL cHand R6 yxChain] [H7 : EncL cEntry R7 yxBook] : EncR cHouseO [.i .i64 yxNo, .own 8 R1, .own 3 R2, .own 3 R3, .own 5 R4, .own 4 R5, .own 5 R6, .own 4 R7, .i .i64 yxNow] (⟨yxNo, yxFinds, yxSecrets, yxSlots, yxClaims, yxTrials, yxChain, yxBook, yxNow⟩ : House) := ⟨by obtain ⟨rfl⟩ := H1; obtain ⟨rfl⟩ := H2; obtain ⟨rfl⟩ := H3; obtain ⟨rfl⟩ := H4; obtain ⟨rfl⟩ := H5; obtain ⟨rfl⟩ := H6; obtain ⟨rfl⟩ := H7; rfl⟩
theorem ld_House (xs : List House) : lendRows (xs.map cHouseO) = xs.map cHouse := t_lend (fun x => by simp only [e_cHouseO, e_cHouse, lendRow, lendc, ld_Claim, ld_Entry, ld_Find, ld_Hand, ld_Secret, ld_Slot, ld_Trial]) xs
theorem cl_House (xs : List House) : cleanRows (xs.map cHouseO) = true := t_clean (fun x => by simp only [e_cHouseO, cleans, AV.clean, Bool.and_self, cl_Claim, cl_Entry, cl_Find, cl_Hand, cl_Secret, cl_Slot, cl_Trial]) xs
theorem et_House (x : House) : (⟨x.No, x.Finds, x.Secrets, x.Slots, x.Claims, x.Trials, x.Chain, x.Book, x.Now⟩ : House) = x := _root_.id rfl
def c_li64 (x : List Int) : List AV := [.imm 1 (x.map c_i64)]
theorem e_c_li64 (x : List Int) : c_li64 x = [.imm 1 (x.map c_i64)] := _root_.id rfl
instance {R} {x : List Int} [H : EncL c_i64 R x] : EncR c_li64 [.imm 1 R] x := ⟨by obtain ⟨rfl⟩ := H; rfl⟩
theorem ib_c_li64 {R : List (List AV)} {xs : List (List Int)} (i : Int) [h : EncL c_li64 R xs] : inb R i = inb xs i := by rw [h.eq, t_inb]
theorem ro_c_li64 {R : List (List AV)} {xs : List (List Int)} (i : Int) [h : EncL c_li64 R xs] (hi : inb xs i = true) : rowOf R i.toNat = c_li64 (gt xs i) := by rw [h.eq, t_row xs i hi]
def encs := And.intro @e_c_i64 <| And.intro @ld_i64 <| And.intro @cl_i64 <| And.intro @ib_i64 <| And.intro @ro_i64 <| And.intro @e_c_u8 <| And.intro @ld_u8 <| And.intro @cl_u8 <| And.intro @ib_u8 <| And.intro @ro_u8 <| And.intro @e_c_b <| And.intro @ld_b <| And.intro @cl_b <| And.intro @ib_b <| And.intro @ro_b <| And.intro @e_c_s <| And.intro @ld_s <| And.intro @cl_s <| And.intro @ib_s <| And.intro @ro_s <| And.intro @e_cThing <| And.intro @ld_Thing <| And.intro @cl_Thing <| And.intro @et_Thing <| And.intro @e_cFind <| And.intro @ld_Find <| And.intro @cl_Find <| And.intro @et_Find <| And.intro @e_cMark <| And.intro @ld_Mark <| And.intro @cl_Mark <| And.intro @et_Mark <| And.intro @e_cSecret <| And.intro @ld_Secret <| And.intro @cl_Secret <| And.intro @et_Secret <| And.intro @e_cSecretO <| And.intro @e_cSlot <| And.intro @ld_Slot <| And.intro @cl_Slot <| And.intro @et_Slot <| And.intro @e_cClaim <| And.intro @ld_Claim <| And.intro @cl_Claim <| And.intro @et_Claim <| And.intro @e_cTrial <| And.intro @ld_Trial <| And.intro @cl_Trial <| And.intro @et_Trial <| And.intro @e_cHand <| And.intro @ld_Hand <| And.intro @cl_Hand <| And.intro @et_Hand <| And.intro @e_cEntry <| And.intro @ld_Entry <| And.intro @cl_Entry <| And.intro @et_Entry <| And.intro @e_cHouse <| And.intro @ld_House <| And.intro @cl_House <| And.intro @et_House <| And.intro @e_cHouseO <| And.intro @e_c_li64 <| And.intro @ib_c_li64 @ro_c_li64
theorem ty0 : flT Tryz.prog 127 = false := by kernel_rfl
theorem ty1 : isSlT Tryz.prog 64 = true := by kernel_rfl
theorem ty2 : slz Tryz.prog 9 127 = [0, 2, 0] := by kernel_rfl
theorem ty3 : slzE Tryz.prog 149 = [0] := by kernel_rfl
theorem ty4 : slzE Tryz.prog 240 = [1] := by kernel_rfl
theorem ty5 : slzE Tryz.prog 33 = [0, 0, 0, 0, 0, 0, 0, 0] := by kernel_rfl
theorem ty6 : slzE Tryz.prog 34 = [0, 2, 0] := by kernel_rfl
theorem ty7 : slzE Tryz.prog 35 = [0, 0, 0] := by kernel_rfl
theorem ty8 : slzE Tryz.prog 36 = [0, 0, 0, 0, 0] := by kernel_rfl
theorem ty9 : slzE Tryz.prog 37 = [0, 0, 0, 0] := by kernel_rfl
theorem ty10 : slzE Tryz.prog 38 = [0, 0, 0, 0, 0] := by kernel_rfl
theorem ty11 : slzE Tryz.prog 39 = [0, 0, 0, 0] := by kernel_rfl
theorem ty12 : slzE Tryz.prog 64 = [0, 0] := by kernel_rfl
theorem ty13 : tb Tryz.prog 103 = some 40 := by kernel_rfl
theorem ty14 : tb Tryz.prog 106 = some 32 := by kernel_rfl
theorem ty15 : tb Tryz.prog 120 = some 32 := by kernel_rfl
theorem ty16 : tb Tryz.prog 127 = some 40 := by kernel_rfl
theorem ty17 : tb Tryz.prog 133 = some 40 := by kernel_rfl
theorem ty18 : tb Tryz.prog 136 = some 16 := by kernel_rfl
theorem ty19 : tb Tryz.prog 158 = some 24 := by kernel_rfl
theorem ty20 : tb Tryz.prog 3 = some 8 := by kernel_rfl
theorem ty21 : tb Tryz.prog 62 = some 64 := by kernel_rfl
theorem ty22 : teqP Tryz.prog 4 = some [.t] := by kernel_rfl
theorem ty23 : tfo Tryz.prog 103 0 = some (0, .one) := by kernel_rfl
theorem ty24 : tfo Tryz.prog 103 1 = some (1, .one) := by kernel_rfl
theorem ty25 : tfo Tryz.prog 103 2 = some (2, .one) := by kernel_rfl
theorem ty26 : tfo Tryz.prog 103 3 = some (3, .one) := by kernel_rfl
theorem ty27 : tfo Tryz.prog 103 4 = some (4, .one) := by kernel_rfl
theorem ty28 : tfo Tryz.prog 106 0 = some (0, .one) := by kernel_rfl
theorem ty29 : tfo Tryz.prog 106 1 = some (1, .one) := by kernel_rfl
theorem ty30 : tfo Tryz.prog 106 2 = some (2, .one) := by kernel_rfl
theorem ty31 : tfo Tryz.prog 106 3 = some (3, .one) := by kernel_rfl
theorem ty32 : tfo Tryz.prog 120 0 = some (0, .one) := by kernel_rfl
theorem ty33 : tfo Tryz.prog 120 1 = some (1, .one) := by kernel_rfl
theorem ty34 : tfo Tryz.prog 120 2 = some (2, .one) := by kernel_rfl
theorem ty35 : tfo Tryz.prog 120 3 = some (3, .one) := by kernel_rfl
theorem ty36 : tfo Tryz.prog 127 0 = some (0, .one) := by kernel_rfl
theorem ty37 : tfo Tryz.prog 127 1 = some (1, .one) := by kernel_rfl
theorem ty38 : tfo Tryz.prog 127 2 = some (2, .one) := by kernel_rfl
theorem ty39 : tfo Tryz.prog 133 0 = some (0, .one) := by kernel_rfl
theorem ty40 : tfo Tryz.prog 133 1 = some (1, .one) := by kernel_rfl
theorem ty41 : tfo Tryz.prog 133 2 = some (2, .one) := by kernel_rfl
theorem ty42 : tfo Tryz.prog 133 3 = some (3, .one) := by kernel_rfl
theorem ty43 : tfo Tryz.prog 133 4 = some (4, .one) := by kernel_rfl
theorem ty44 : tfo Tryz.prog 136 0 = some (0, .one) := by kernel_rfl
theorem ty45 : tfo Tryz.prog 136 1 = some (1, .one) := by kernel_rfl
theorem ty46 : tfo Tryz.prog 138 0 = some (0, .one) := by kernel_rfl
theorem ty47 : tfo Tryz.prog 138 1 = some (1, .one) := by kernel_rfl
theorem ty48 : tfo Tryz.prog 142 0 = some (0, .one) := by kernel_rfl
theorem ty49 : tfo Tryz.prog 142 1 = some (1, .one) := by kernel_rfl
theorem ty50 : tfo Tryz.prog 142 2 = some (2, .one) := by kernel_rfl
theorem ty51 : tfo Tryz.prog 158 0 = some (0, .one) := by kernel_rfl
theorem ty52 : tfo Tryz.prog 158 1 = some (1, .one) := by kernel_rfl
theorem ty53 : tfo Tryz.prog 158 2 = some (2, .one) := by kernel_rfl
theorem ty54 : tfo Tryz.prog 160 0 = some (0, .one) := by kernel_rfl
theorem ty55 : tfo Tryz.prog 160 1 = some (1, .one) := by kernel_rfl
theorem ty56 : tfo Tryz.prog 160 2 = some (2, .one) := by kernel_rfl
theorem ty57 : tfo Tryz.prog 162 0 = some (0, .one) := by kernel_rfl
theorem ty58 : tfo Tryz.prog 162 1 = some (1, .one) := by kernel_rfl
theorem ty59 : tfo Tryz.prog 162 2 = some (2, .one) := by kernel_rfl
theorem ty60 : tfo Tryz.prog 162 3 = some (3, .one) := by kernel_rfl
theorem ty61 : tfo Tryz.prog 162 4 = some (4, .one) := by kernel_rfl
theorem ty62 : tfo Tryz.prog 164 0 = some (0, .one) := by kernel_rfl
theorem ty63 : tfo Tryz.prog 164 1 = some (1, .one) := by kernel_rfl
theorem ty64 : tfo Tryz.prog 164 2 = some (2, .one) := by kernel_rfl
theorem ty65 : tfo Tryz.prog 164 3 = some (3, .one) := by kernel_rfl
theorem ty66 : tfo Tryz.prog 166 0 = some (0, .one) := by kernel_rfl
theorem ty67 : tfo Tryz.prog 166 1 = some (1, .one) := by kernel_rfl
theorem ty68 : tfo Tryz.prog 166 2 = some (2, .one) := by kernel_rfl
theorem ty69 : tfo Tryz.prog 166 3 = some (3, .one) := by kernel_rfl
theorem ty70 : tfo Tryz.prog 166 4 = some (4, .one) := by kernel_rfl
theorem ty71 : tfo Tryz.prog 168 0 = some (0, .one) := by kernel_rfl
theorem ty72 : tfo Tryz.prog 168 1 = some (1, .one) := by kernel_rfl
theorem ty73 : tfo Tryz.prog 168 2 = some (2, .one) := by kernel_rfl
theorem ty74 : tfo Tryz.prog 168 3 = some (3, .one) := by kernel_rfl
theorem ty75 : tfo Tryz.prog 30 0 = some (0, .one) := by kernel_rfl
theorem ty76 : tfo Tryz.prog 30 1 = some (1, .one) := by kernel_rfl
theorem ty77 : tfo Tryz.prog 30 2 = some (2, .one) := by kernel_rfl
theorem ty78 : tfo Tryz.prog 30 3 = some (3, .one) := by kernel_rfl
theorem ty79 : tfo Tryz.prog 30 4 = some (4, .one) := by kernel_rfl
theorem ty80 : tfo Tryz.prog 30 5 = some (5, .one) := by kernel_rfl
theorem ty81 : tfo Tryz.prog 30 6 = some (6, .one) := by kernel_rfl
theorem ty82 : tfo Tryz.prog 30 7 = some (7, .one) := by kernel_rfl
theorem ty83 : tfo Tryz.prog 30 8 = some (8, .one) := by kernel_rfl
theorem ty84 : tfo Tryz.prog 41 0 = some (0, .one) := by kernel_rfl
theorem ty85 : tfo Tryz.prog 41 1 = some (1, .one) := by kernel_rfl
theorem ty86 : tfo Tryz.prog 41 2 = some (2, .one) := by kernel_rfl
theorem ty87 : tfo Tryz.prog 41 3 = some (3, .one) := by kernel_rfl
theorem ty88 : tfo Tryz.prog 41 4 = some (4, .one) := by kernel_rfl
theorem ty89 : tfo Tryz.prog 41 5 = some (5, .one) := by kernel_rfl
theorem ty90 : tfo Tryz.prog 41 6 = some (6, .one) := by kernel_rfl
theorem ty91 : tfo Tryz.prog 41 7 = some (7, .one) := by kernel_rfl
theorem ty92 : tfo Tryz.prog 41 8 = some (8, .one) := by kernel_rfl
theorem ty93 : tfo Tryz.prog 54 0 = some (0, .one) := by kernel_rfl
theorem ty94 : tfo Tryz.prog 54 1 = some (1, .one) := by kernel_rfl
theorem ty95 : tfo Tryz.prog 54 2 = some (2, .one) := by kernel_rfl
theorem ty96 : tfo Tryz.prog 54 3 = some (3, .one) := by kernel_rfl
theorem ty97 : tfo Tryz.prog 54 4 = some (4, .one) := by kernel_rfl
theorem ty98 : tfo Tryz.prog 56 0 = some (0, .agg 5) := by kernel_rfl
theorem ty99 : tfo Tryz.prog 56 1 = some (5, .one) := by kernel_rfl
theorem ty100 : tfo Tryz.prog 56 2 = some (6, .one) := by kernel_rfl
theorem ty101 : tfo Tryz.prog 56 3 = some (7, .one) := by kernel_rfl
theorem ty102 : tfo Tryz.prog 60 0 = some (0, .one) := by kernel_rfl
theorem ty103 : tfo Tryz.prog 60 1 = some (1, .one) := by kernel_rfl
theorem ty104 : tfo Tryz.prog 60 2 = some (2, .one) := by kernel_rfl
theorem ty105 : tfo Tryz.prog 60 3 = some (3, .one) := by kernel_rfl
theorem ty106 : tfo Tryz.prog 60 4 = some (4, .one) := by kernel_rfl
theorem ty107 : tfo Tryz.prog 62 0 = some (0, .agg 5) := by kernel_rfl
theorem ty108 : tfo Tryz.prog 62 1 = some (5, .one) := by kernel_rfl
theorem ty109 : tfo Tryz.prog 62 2 = some (6, .one) := by kernel_rfl
theorem ty110 : tfo Tryz.prog 62 3 = some (7, .one) := by kernel_rfl
theorem ty111 : ti Tryz.prog 149 = .sl 3 1 := by kernel_rfl
theorem ty112 : ti Tryz.prog 22 = .sl 56 8 := by kernel_rfl
theorem ty113 : ti Tryz.prog 23 = .sl 142 3 := by kernel_rfl
theorem ty114 : ti Tryz.prog 24 = .sl 160 3 := by kernel_rfl
theorem ty115 : ti Tryz.prog 240 = .sl 149 1 := by kernel_rfl
theorem ty116 : ti Tryz.prog 25 = .sl 162 5 := by kernel_rfl
theorem ty117 : ti Tryz.prog 26 = .sl 164 4 := by kernel_rfl
theorem ty118 : ti Tryz.prog 27 = .sl 166 5 := by kernel_rfl
theorem ty119 : ti Tryz.prog 28 = .sl 168 4 := by kernel_rfl
theorem ty120 : ti Tryz.prog 33 = .sl 62 8 := by kernel_rfl
theorem ty121 : ti Tryz.prog 34 = .sl 127 3 := by kernel_rfl
theorem ty122 : ti Tryz.prog 35 = .sl 158 3 := by kernel_rfl
theorem ty123 : ti Tryz.prog 36 = .sl 103 5 := by kernel_rfl
theorem ty124 : ti Tryz.prog 37 = .sl 106 4 := by kernel_rfl
theorem ty125 : ti Tryz.prog 38 = .sl 133 5 := by kernel_rfl
theorem ty126 : ti Tryz.prog 39 = .sl 120 4 := by kernel_rfl
theorem ty127 : ti Tryz.prog 57 = .sl 138 2 := by kernel_rfl
theorem ty128 : ti Tryz.prog 64 = .sl 136 2 := by kernel_rfl
theorem ty129 : tk Tryz.prog 103 = .agg 5 := by kernel_rfl
theorem ty130 : tk Tryz.prog 106 = .agg 4 := by kernel_rfl
theorem ty131 : tk Tryz.prog 120 = .agg 4 := by kernel_rfl
theorem ty132 : tk Tryz.prog 127 = .agg 3 := by kernel_rfl
theorem ty133 : tk Tryz.prog 133 = .agg 5 := by kernel_rfl
theorem ty134 : tk Tryz.prog 136 = .agg 2 := by kernel_rfl
theorem ty135 : tk Tryz.prog 138 = .agg 2 := by kernel_rfl
theorem ty136 : tk Tryz.prog 142 = .agg 3 := by kernel_rfl
theorem ty137 : tk Tryz.prog 149 = .one := by kernel_rfl
theorem ty138 : tk Tryz.prog 158 = .agg 3 := by kernel_rfl
theorem ty139 : tk Tryz.prog 160 = .agg 3 := by kernel_rfl
theorem ty140 : tk Tryz.prog 162 = .agg 5 := by kernel_rfl
theorem ty141 : tk Tryz.prog 164 = .agg 4 := by kernel_rfl
theorem ty142 : tk Tryz.prog 166 = .agg 5 := by kernel_rfl
theorem ty143 : tk Tryz.prog 168 = .agg 4 := by kernel_rfl
theorem ty144 : tk Tryz.prog 22 = .one := by kernel_rfl
theorem ty145 : tk Tryz.prog 23 = .one := by kernel_rfl
theorem ty146 : tk Tryz.prog 24 = .one := by kernel_rfl
theorem ty147 : tk Tryz.prog 25 = .one := by kernel_rfl
theorem ty148 : tk Tryz.prog 26 = .one := by kernel_rfl
theorem ty149 : tk Tryz.prog 27 = .one := by kernel_rfl
theorem ty150 : tk Tryz.prog 28 = .one := by kernel_rfl
theorem ty151 : tk Tryz.prog 3 = .one := by kernel_rfl
theorem ty152 : tk Tryz.prog 30 = .agg 9 := by kernel_rfl
theorem ty153 : tk Tryz.prog 33 = .one := by kernel_rfl
theorem ty154 : tk Tryz.prog 34 = .one := by kernel_rfl
theorem ty155 : tk Tryz.prog 35 = .one := by kernel_rfl
theorem ty156 : tk Tryz.prog 36 = .one := by kernel_rfl
theorem ty157 : tk Tryz.prog 37 = .one := by kernel_rfl
theorem ty158 : tk Tryz.prog 38 = .one := by kernel_rfl
theorem ty159 : tk Tryz.prog 39 = .one := by kernel_rfl
theorem ty160 : tk Tryz.prog 41 = .agg 9 := by kernel_rfl
theorem ty161 : tk Tryz.prog 54 = .agg 5 := by kernel_rfl
theorem ty162 : tk Tryz.prog 56 = .agg 8 := by kernel_rfl
theorem ty163 : tk Tryz.prog 57 = .one := by kernel_rfl
theorem ty164 : tk Tryz.prog 60 = .agg 5 := by kernel_rfl
theorem ty165 : tk Tryz.prog 62 = .agg 8 := by kernel_rfl
theorem ty166 : tk Tryz.prog 64 = .one := by kernel_rfl
theorem ty167 : tnoint Tryz.prog 149 = true := by kernel_rfl
theorem ty168 : tnoint Tryz.prog 38 = true := by kernel_rfl
theorem ty169 : tnoint Tryz.prog 64 = true := by kernel_rfl
theorem ty170 : tse Tryz.prog 149 = some (3, 1, [.i .i64 0]) := by kernel_rfl
theorem ty171 : tse Tryz.prog 240 = some (149, 1, [.nil]) := by kernel_rfl
theorem ty172 : tse Tryz.prog 33 = some (62, 8, [.i .i64 0, .i .i64 0, .i .i64 0, .i .i64 0, .i .i64 0, .i .i64 0, .i .i64 0, .i .i64 0]) := by kernel_rfl
theorem ty173 : tse Tryz.prog 34 = some (127, 3, [.i .i64 0, .nil, .i .i64 0]) := by kernel_rfl
theorem ty174 : tse Tryz.prog 35 = some (158, 3, [.i .i64 0, .i .i64 0, .i .i64 0]) := by kernel_rfl
theorem ty175 : tse Tryz.prog 36 = some (103, 5, [.i .i64 0, .i .i64 0, .i .i64 0, .i .i64 0, .i .i64 0]) := by kernel_rfl
theorem ty176 : tse Tryz.prog 37 = some (106, 4, [.i .i64 0, .i .i64 0, .i .i64 0, .i .i64 0]) := by kernel_rfl
theorem ty177 : tse Tryz.prog 38 = some (133, 5, [.i .i64 0, .i .i64 0, .i .i64 0, .i .i64 0, .i .i64 0]) := by kernel_rfl
theorem ty178 : tse Tryz.prog 39 = some (120, 4, [.i .i64 0, .i .i64 0, .i .i64 0, .i .i64 0]) := by kernel_rfl
theorem ty179 : tse Tryz.prog 64 = some (136, 2, [.i .i64 0, .i .i64 0]) := by kernel_rfl
theorem ty180 : tzc Tryz.prog 103 = some [.i .i64 0, .i .i64 0, .i .i64 0, .i .i64 0, .i .i64 0] := by kernel_rfl
theorem ty181 : tzc Tryz.prog 106 = some [.i .i64 0, .i .i64 0, .i .i64 0, .i .i64 0] := by kernel_rfl
theorem ty182 : tzc Tryz.prog 120 = some [.i .i64 0, .i .i64 0, .i .i64 0, .i .i64 0] := by kernel_rfl
theorem ty183 : tzc Tryz.prog 127 = some [.i .i64 0, .nil, .i .i64 0] := by kernel_rfl
theorem ty184 : tzc Tryz.prog 133 = some [.i .i64 0, .i .i64 0, .i .i64 0, .i .i64 0, .i .i64 0] := by kernel_rfl
theorem ty185 : tzc Tryz.prog 136 = some [.i .i64 0, .i .i64 0] := by kernel_rfl
theorem ty186 : tzc Tryz.prog 158 = some [.i .i64 0, .i .i64 0, .i .i64 0] := by kernel_rfl
theorem ty187 : tzc Tryz.prog 41 = some [.i .i64 0, .nil, .nil, .nil, .nil, .nil, .nil, .nil, .i .i64 0] := by kernel_rfl
theorem ty188 : tzc Tryz.prog 60 = some [.i .i64 0, .i .i64 0, .i .i64 0, .i .i64 0, .i .i64 0] := by kernel_rfl
theorem ty189 : tzc Tryz.prog 62 = some [.i .i64 0, .i .i64 0, .i .i64 0, .i .i64 0, .i .i64 0, .i .i64 0, .i .i64 0, .i .i64 0] := by kernel_rfl
def tys := And.intro @ty0 <| And.intro @ty1 <| And.intro @ty2 <| And.intro @ty3 <| And.intro @ty4 <| And.intro @ty5 <| And.intro @ty6 <| And.intro @ty7 <| And.intro @ty8 <| And.intro @ty9 <| And.intro @ty10 <| And.intro @ty11 <| And.intro @ty12 <| And.intro @ty13 <| And.intro @ty14 <| And.intro @ty15 <| And.intro @ty16 <| And.intro @ty17 <| And.intro @ty18 <| And.intro @ty19 <| And.intro @ty20 <| And.intro @ty21 <| And.intro @ty22 <| And.intro @ty23 <| And.intro @ty24 <| And.intro @ty25 <| And.intro @ty26 <| And.intro @ty27 <| And.intro @ty28 <| And.intro @ty29 <| And.intro @ty30 <| And.intro @ty31 <| And.intro @ty32 <| And.intro @ty33 <| And.intro @ty34 <| And.intro @ty35 <| And.intro @ty36 <| And.intro @ty37 <| And.intro @ty38 <| And.intro @ty39 <| And.intro @ty40 <| And.intro @ty41 <| And.intro @ty42 <| And.intro @ty43 <| And.intro @ty44 <| And.intro @ty45 <| And.intro @ty46 <| And.intro @ty47 <| And.intro @ty48 <| And.intro @ty49 <| And.intro @ty50 <| And.intro @ty51 <| And.intro @ty52 <| And.intro @ty53 <| And.intro @ty54 <| And.intro @ty55 <| And.intro @ty56 <| And.intro @ty57 <| And.intro @ty58 <| And.intro @ty59 <| And.intro @ty60 <| And.intro @ty61 <| And.intro @ty62 <| And.intro @ty63 <| And.intro @ty64 <| And.intro @ty65 <| And.intro @ty66 <| And.intro @ty67 <| And.intro @ty68 <| And.intro @ty69 <| And.intro @ty70 <| And.intro @ty71 <| And.intro @ty72 <| And.intro @ty73 <| And.intro @ty74 <| And.intro @ty75 <| And.intro @ty76 <| And.intro @ty77 <| And.intro @ty78 <| And.intro @ty79 <| And.intro @ty80 <| And.intro @ty81 <| And.intro @ty82 <| And.intro @ty83 <| And.intro @ty84 <| And.intro @ty85 <| And.intro @ty86 <| And.intro @ty87 <| And.intro @ty88 <| And.intro @ty89 <| And.intro @ty90 <| And.intro @ty91 <| And.intro @ty92 <| And.intro @ty93 <| And.intro @ty94 <| And.intro @ty95 <| And.intro @ty96 <| And.intro @ty97 <| And.intro @ty98 <| And.intro @ty99 <| And.intro @ty100 <| And.intro @ty101 <| And.intro @ty102 <| And.intro @ty103 <| And.intro @ty104 <| And.intro @ty105 <| And.intro @ty106 <| And.intro @ty107 <| And.intro @ty108 <| And.intro @ty109 <| And.intro @ty110 <| And.intro @ty111 <| And.intro @ty112 <| And.intro @ty113 <| And.intro @ty114 <| And.intro @ty115 <| And.intro @ty116 <| And.intro @ty117 <| And.intro @ty118 <| And.intro @ty119 <| And.intro @ty120 <| And.intro @ty121 <| And.intro @ty122 <| And.intro @ty123 <| And.intro @ty124 <| And.intro @ty125 <| And.intro @ty126 <| And.intro @ty127 <| And.intro @ty128 <| And.intro @ty129 <| And.intro @ty130 <| And.intro @ty131 <| And.intro @ty132 <| And.intro @ty133 <| And.intro @ty134 <| And.intro @ty135 <| And.intro @ty136 <| And.intro @ty137 <| And.intro @ty138 <| And.intro @ty139 <| And.intro @ty140 <| And.intro @ty141 <| And.intro @ty142 <| And.intro @ty143 <| And.intro @ty144 <| And.intro @ty145 <| And.intro @ty146 <| And.intro @ty147 <| And.intro @ty148 <| And.intro @ty149 <| And.intro @ty150 <| And.intro @ty151 <| And.intro @ty152 <| And.intro @ty153 <| And.intro @ty154 <| And.intro @ty155 <| And.intro @ty156 <| And.intro @ty157 <| And.intro @ty158 <| And.intro @ty159 <| And.intro @ty160 <| And.intro @ty161 <| And.intro @ty162 <| And.intro @ty163 <| And.intro @ty164 <| And.intro @ty165 <| And.intro @ty166 <| And.intro @ty167 <| And.intro @ty168 <| And.intro @ty169 <| And.intro @ty170 <| And.intro @ty171 <| And.intro @ty172 <| And.intro @ty173 <| And.intro @ty174 <| And.intro @ty175 <| And.intro @ty176 <| And.intro @ty177 <| And.intro @ty178 <| And.intro @ty179 <| And.intro @ty180 <| And.intro @ty181 <| And.intro @ty182 <| And.intro @ty183 <| And.intro @ty184 <| And.intro @ty185 <| And.intro @ty186 <| And.intro @ty187 <| And.intro @ty188 @ty189
def xt (g : Nat) (args : List AV) : Option AV := match args with
  | [.nil, .i .i64 x] => if g = 268 then (slices_Grow_int x).map fun r => .own 1 (r.map c_i64) else none
  | _ => none
noncomputable def T : Tld := ⟨Tryz.prog, [(3, {}), (10, {}), (11, {}), (12, { sh := [.a [0, 8, 3, 3, 5, 4, 5, 4, 0]] }), (13, {}), (14, {}), (27, {}), (29, {}), (30, { lp := [(3, ⟨[0, 3, 4], [.s 3 2], [3], [.s 3 2]⟩)], sh := [.z 2] }), (32, { lp := [(4, ⟨[0, 1, 5], [], [], []⟩)], rt := ⟨[4], [], [], []⟩ }), (34, {}), (35, { lp := [(5, ⟨[0, 1, 5], [], [1], []⟩)], rt := ⟨[4], [], [], []⟩ }), (36, {}), (37, {}), (38, {}), (39, {}), (40, {}), (41, { jn := [(1, (48, 3, 48)), (3, (86, 49, 86)), (5, (2, 87, 93))] }), (42, { jn := [(6, (42, 25, 42))], lp := [(3, ⟨[1, 3, 4], [.s 1 0, .s 3 1], [], []⟩)], rt := ⟨[2], [], [], []⟩ }), (43, { jn := [(6, (46, 23, 46))], lp := [(2, ⟨[1, 3], [.s 1 0], [], []⟩)], rt := ⟨[2], [], [], []⟩ }), (44, { jn := [(6, (35, 23, 35)), (7, (48, 36, 48))], lp := [(2, ⟨[1, 3], [.s 1 0], [], []⟩)], rt := ⟨[2], [], [], []⟩ }), (45, { jn := [(7, (2, 24, 32))], lp := [(4, ⟨[1, 3, 4, 5], [.s 1 0, .s 4 1], [1, 3], [.s 1 0]⟩)] }), (46, { lp := [(3, ⟨[0, 3, 4], [.s 3 8], [3], [.s 3 8]⟩)], sh := [.z 8] }), (47, { lp := [(3, ⟨[0, 3, 4], [.s 3 3], [3], [.s 3 3]⟩)], sh := [.z 3] }), (48, { lp := [(3, ⟨[0, 3, 4], [.s 3 3], [3], [.s 3 3]⟩)], sh := [.z 3] }), (49, { lp := [(3, ⟨[0, 3, 4], [.s 3 5], [3], [.s 3 5]⟩)], sh := [.z 5] }), (50, { lp := [(3, ⟨[0, 3, 4], [.s 3 4], [3], [.s 3 4]⟩)], sh := [.z 4] }), (51, { lp := [(3, ⟨[0, 3, 4], [.s 3 5], [3], [.s 3 5]⟩)], sh := [.z 5] }), (52, { lp := [(3, ⟨[0, 3, 4], [.s 3 4], [3], [.s 3 4]⟩)], sh := [.z 4] }), (53, { ord := [(1, [0, 1, 2, 3, 4, 5, 6, 7, 8, 9, 10, 11, 12, 13, 14, 15, 16, 17, 18, 19, 20, 21, 22, 23, 24, 25, 26, 27, 28, 29, 30, 31, 32, 33, 34, 35, 36, 37, 38, 39, 40, 41, 42, 44, 45, 43, 46, 47, 48, 49, 50, 51, 52, 53])], jn := [(1, (2, 3, 56))] }), (54, { jn := [(6, (38, 22, 38))], lp := [(3, ⟨[1, 3, 13, 14, 15], [.s 1 0, .s 3 1], [], []⟩)], rt := ⟨[2], [], [], []⟩ }), (55, { jn := [(4, (20, 13, 20)), (6, (38, 26, 38))], lp := [(2, ⟨[1, 7, 8, 9], [.s 1 0], [], []⟩)], rt := ⟨[2], [], [], []⟩ }), (56, { jn := [(4, (20, 13, 20)), (6, (38, 26, 38))], lp := [(2, ⟨[1, 7, 8, 9], [.s 1 0], [], []⟩)], rt := ⟨[2], [], [], []⟩ }), (57, { jn := [(7, (2, 21, 29))], lp := [(3, ⟨[1, 3, 8, 9, 10], [.s 1 0, .s 8 1], [1, 3], [.s 1 0]⟩)] }), (58, { lp := [(4, ⟨[0, 1, 5], [], [], []⟩)], rt := ⟨[4], [], [], []⟩ }), (59, { lp := [(4, ⟨[0, 1, 5], [], [], []⟩)], rt := ⟨[4], [], [], []⟩ }), (60, { lp := [(4, ⟨[0, 1, 5], [], [], []⟩)], rt := ⟨[4], [], [], []⟩ }), (61, { lp := [(4, ⟨[0, 1, 5], [], [], []⟩)], rt := ⟨[4], [], [], []⟩ }), (62, { lp := [(4, ⟨[0, 1, 5], [], [], []⟩)], rt := ⟨[4], [], [], []⟩ }), (63, { lp := [(4, ⟨[0, 1, 5], [], [], []⟩)], rt := ⟨[4], [], [], []⟩ }), (64, { lp := [(4, ⟨[0, 1, 5], [], [], []⟩)], rt := ⟨[4], [], [], []⟩ }), (66, { jn := [(1, (6, 7, 15))] }), (70, { jn := [(1, (6, 7, 15))] }), (86, { sh := [.z 2] }), (88, { jn := [(1, (5, 6, 19)), (3, (19, 20, 30))] }), (90, { sh := [.z 2] }), (92, { jn := [(1, (5, 6, 19)), (3, (19, 20, 30))] }), (95, { jn := [(4, (22, 12, 22))], lp := [(2, ⟨[0, 1, 5], [], [], []⟩)], rt := ⟨[4], [], [], []⟩ }), (97, {}), (100, { lp := [(2, ⟨[0, 1, 5], [], [], []⟩)], rt := ⟨[4], [], [], []⟩ }), (116, {}), (117, {}), (122, {}), (123, {}), (124, { jn := [(4, (35, 10, 35))], lp := [(2, ⟨[0, 3], [], [0], []⟩)], rt := ⟨[2], [], [], []⟩ }), (125, { jn := [(4, (61, 10, 61))], lp := [(2, ⟨[0, 3], [], [0], []⟩)], rt := ⟨[2], [], [], []⟩ }), (126, { jn := [(4, (53, 11, 53)), (9, (77, 59, 77))], lp := [(2, ⟨[0, 3], [], [0], []⟩), (7, ⟨[0, 3, 4], [], [0, 3], []⟩)], rt := ⟨[2], [], [], []⟩ }), (127, { jn := [(5, (58, 16, 58)), (10, (84, 64, 84))], lp := [(2, ⟨[0, 3], [], [0], []⟩), (8, ⟨[0, 3, 4, 5], [.s 4 0], [0, 3], []⟩)], rt := ⟨[2], [], [], []⟩ }), (128, { jn := [(3, (15, 7, 15)), (7, (67, 25, 67)), (10, (96, 73, 96))], lp := [(3, ⟨[0, 3, 4], [], [0], []⟩)], rt := ⟨[2], [], [], []⟩ }), (129, { jn := [(5, (58, 15, 58))], lp := [(2, ⟨[0, 3], [], [0], []⟩)], rt := ⟨[2], [], [], []⟩ }), (130, { ord := [(13, [0, 1, 2, 3, 4, 5, 6, 7, 8, 9, 10, 11, 14, 15, 12, 13, 16, 17, 18, 19, 20, 21, 22, 23, 24, 25, 26, 27, 28, 29])], jn := [(13, (77, 48, 77)), (18, (103, 85, 103))], lp := [(5, ⟨[1, 3, 4], [.s 1 0, .s 3 1], [1, 3], [.s 1 0, .s 3 1]⟩), (10, ⟨[1, 3, 5], [.s 1 0, .s 3 1], [1], [.s 1 0]⟩), (16, ⟨[1, 7], [.s 1 0], [], []⟩)], rt := ⟨[2], [], [], []⟩ }), (131, { ord := [(8, [0, 1, 2, 3, 4, 5, 6, 7, 8, 9, 10, 11, 12, 13, 14, 15, 16, 17, 18, 19, 20, 21, 22, 23, 24, 25, 26, 27, 28, 29, 30, 32, 33, 34, 35, 36, 38, 31, 37, 39, 40, 41, 42, 43, 44, 45, 46, 47])], jn := [(8, (77, 30, 77))], lp := [(4, ⟨[1, 3], [.s 1 0], [], []⟩)], rt := ⟨[2], [], [], []⟩ }), (132, { jn := [(3, (16, 9, 16)), (6, (42, 28, 42))], lp := [(3, ⟨[0, 1, 5, 6], [.s 5 1], [5], [.s 5 1]⟩)], sh := [.z 1] }), (133, { lp := [(3, ⟨[0, 1, 5, 6], [.s 5 5], [5], [.s 5 5]⟩)], sh := [.z 5] }), (134, { lp := [(2, ⟨[0, 1, 5], [], [], []⟩)], rt := ⟨[4], [], [], []⟩ }), (135, { jn := [(4, (41, 13, 41))], lp := [(2, ⟨[2, 3, 5], [.s 2 0, .s 3 0], [], []⟩)], rt := ⟨[4], [], [], []⟩ }), (136, { jn := [(1, (4, 5, 13))] }), (137, { ord := [(5, [0, 1, 2, 3, 4, 5, 7, 8, 9, 10, 11, 6, 12, 13])], lp := [(3, ⟨[0, 3, 4], [.s 3 1], [3], [.s 3 1]⟩)], sh := [.z 1] }), (138, { jn := [(3, (14, 7, 14))], lp := [(3, ⟨[0, 1, 5, 6], [], [5], []⟩)] }), (139, { sh := [.a [0, 2, 0]] }), (140, {}), (141, {}), (142, {}), (143, {}), (144, {}), (145, { jn := [(6, (34, 15, 34))], lp := [(4, ⟨[0, 8, 9, 10], [], [], []⟩)], rt := ⟨[2], [], [], []⟩ }), (146, { jn := [(6, (51, 15, 51))], lp := [(4, ⟨[0, 8, 9, 10], [], [], []⟩)], rt := ⟨[2], [], [], []⟩ }), (147, { jn := [(6, (54, 15, 54))], lp := [(4, ⟨[0, 8, 9, 10], [], [], []⟩)], rt := ⟨[2], [], [], []⟩ }), (148, { jn := [(6, (59, 17, 59)), (11, (82, 68, 82))], lp := [(4, ⟨[0, 10, 11, 12], [], [], []⟩), (9, ⟨[0, 4, 10, 11, 12, 62, 63, 64], [.s 4 0], [0, 10, 11, 12], []⟩)], rt := ⟨[2], [], [], []⟩ }), (149, { jn := [(7, (61, 17, 61)), (13, (83, 73, 83))], lp := [(5, ⟨[0, 3, 10, 11, 12], [], [], []⟩)], rt := ⟨[2], [], [], []⟩ }), (150, { jn := [(6, (58, 15, 58))], lp := [(4, ⟨[0, 8, 9, 10], [], [], []⟩)], rt := ⟨[2], [], [], []⟩ }), (151, { ord := [(7, [0, 1, 2, 3, 4, 5, 6, 7, 8, 9, 10, 11, 12, 13, 14, 15, 18, 19, 20, 21, 16, 17, 22, 23, 24])], jn := [(7, (54, 30, 54)), (13, (73, 63, 73))], lp := [(5, ⟨[1, 3, 23, 24, 25], [.s 1 0, .s 3 1], [1, 3], [.s 1 0, .s 3 1]⟩), (11, ⟨[1, 3, 57, 58, 59], [.s 1 0, .s 3 1], [1, 3], [.s 1 0, .s 3 1]⟩), (17, ⟨[1, 75, 76, 77], [.s 1 0, .s 75 1], [], []⟩)], rt := ⟨[2], [], [], []⟩ }), (152, { ord := [(7, [0, 1, 2, 3, 4, 5, 6, 7, 8, 9, 10, 11, 12, 13, 14, 15, 16, 17, 18, 19, 20, 21, 22, 24, 26, 27, 23, 25, 28, 29, 30])], jn := [(7, (56, 26, 56))], lp := [(4, ⟨[1, 14, 15, 16], [.s 1 0], [], []⟩)], rt := ⟨[2], [], [], []⟩ }), (153, { lp := [(3, ⟨[1, 3, 13, 14, 15], [.s 1 0], [1, 3], [.s 1 0]⟩), (8, ⟨[1, 3, 25, 26, 27], [.s 1 0], [1, 3], [.s 1 0]⟩), (13, ⟨[1, 3, 37, 38, 39], [.s 1 0], [1, 3], [.s 1 0]⟩), (18, ⟨[3, 49, 50, 51], [], [3], []⟩)] }), (154, { ac := [(10, 0)], jn := [(7, (36, 20, 36))], lp := [(5, ⟨[0, 1, 5, 13, 14, 15], [.s 5 1], [5], [.s 5 1]⟩)], sh := [.z 1] }), (155, { lp := [(2, ⟨[0, 1, 5], [], [], []⟩)], rt := ⟨[4], [], [], []⟩ }), (156, {}), (157, { jn := [(1, (4, 5, 14))] }), (158, {}), (159, { jn := [(1, (4, 5, 13))] }), (160, { lp := [(3, ⟨[3, 7, 8, 9], [.s 3 1], [3], [.s 3 1]⟩)], sh := [.z 1] }), (161, {}), (162, {}), (163, {}), (164, {}), (165, {}), (166, {}), (167, {}), (168, {}), (179, { lp := [(2, ⟨[0, 1, 5], [], [], []⟩)], rt := ⟨[4], [], [], []⟩ }), (182, { jn := [(1, (2, 3, 26))] }), (183, { jn := [(4, (43, 10, 43))], lp := [(2, ⟨[0, 3], [], [0], []⟩)], rt := ⟨[2], [], [], []⟩ }), (184, {}), (185, { lp := [(2, ⟨[0, 1, 7, 8], [], [], []⟩)], rt := ⟨[4], [], [], []⟩ }), (187, {}), (188, { sh := [.z 2] }), (191, { jn := [(1, (2, 3, 26))] }), (192, { jn := [(6, (39, 15, 39))], lp := [(4, ⟨[0, 8, 9, 10], [], [], []⟩)], rt := ⟨[2], [], [], []⟩ }), (193, {}), (194, {}), (197, { lp := [(2, ⟨[0, 1, 7, 8], [], [], []⟩)], rt := ⟨[4], [], [], []⟩ }), (198, {}), (203, { jn := [(1, (2, 3, 26))] }), (204, {}), (206, { jn := [(1, (2, 3, 26))] }), (209, {}), (213, {}), (214, { jn := [(1, (2, 3, 21))] }), (215, { lp := [(3, ⟨[0, 1, 2, 7, 8], [], [7], []⟩)] }), (216, { ot := [(6, .one 1 (.one 2 (.one 3 (.one 5 (.one 8 (.one 9 (.one 10 (.alt (.one 0 (.alt (.one 4 (.one 6 (.one 7 (.one 11 (.one 12 (.done)))))) (.one 6 (.one 4 (.one 7 (.one 11 (.one 12 (.done)))))))) (.one 6 (.one 0 (.one 4 (.one 7 (.one 11 (.one 12 (.done)))))))))))))))], jn := [(2, (17, 6, 17)), (4, (31, 20, 31))], lp := [(2, ⟨[0, 1, 5], [], [0, 1, 5], []⟩)], sh := [.z 1] }), (217, {}), (218, { jn := [(1, (2, 3, 21))] }), (219, {}), (220, {}), (222, { lp := [(2, ⟨[0, 1, 7, 8], [], [], []⟩)], rt := ⟨[4], [], [], []⟩ }), (223, { jn := [(1, (3, 4, 21))] }), (224, { lp := [(2, ⟨[0, 1, 7, 8], [], [], []⟩)], rt := ⟨[4], [], [], []⟩ }), (225, {}), (226, {}), (227, { ac := [(2, 0), (3, 0)], sh := [.z 1] }), (228, { lp := [(3, ⟨[1, 5, 8, 9, 10], [], [5], []⟩)] }), (229, { lp := [(5, ⟨[1, 5, 12, 13, 14], [], [5], []⟩)] }), (230, {}), (233, { lp := [(2, ⟨[0, 1, 7, 8], [], [], []⟩)], rt := ⟨[4], [], [], []⟩ }), (234, {}), (239, { lp := [(3, ⟨[0, 3, 4], [], [3], []⟩)] }), (244, { lp := [(3, ⟨[3, 6, 7, 8], [], [3], []⟩)] }), (245, { jn := [(5, (10, 11, 17))] }), (248, {}), (249, { lp := [(3, ⟨[0, 3, 9, 10, 11], [], [0, 3], []⟩), (11, ⟨[6, 25, 26, 27], [.s 6 1], [6], [.s 6 1]⟩)], sh := [.z 1] }), (251, {}), (256, {}), (272, {})], xt, fun g => Nat.beq g 221, fun g => Nat.beq g 250⟩
theorem TP : T.P = Tryz.prog := _root_.id rfl
theorem e_slices_Grow_int (n : Nat) (x : Int) : CP T (n + 1) 268 [.nil, .i .i64 x] = (slices_Grow_int x).map fun r => .own 1 (r.map c_i64) := by rw [CP_x T n 268 _ (by kernel_rfl)]; rfl
theorem e_cI : cI = c_i64 := _root_.id rfl
theorem ints_c (xs : List Int) : intsOf (xs.map c_i64) = some xs := s_ints xs
theorem st_221 : T.st 221 = true := by kernel_rfl
theorem st_250 : T.st 250 = false := by kernel_rfl
theorem qt_250 : T.qt 250 = true := by kernel_rfl
def srt := And.intro @e_cI <| And.intro @ints_c <| And.intro @orc_s <| And.intro @orc_q <| And.intro @st_221 <| And.intro @st_250 @qt_250
theorem a3 : T.at 3 = some {} := by kernel_rfl
theorem a10 : T.at 10 = some {} := by kernel_rfl
theorem a11 : T.at 11 = some {} := by kernel_rfl
theorem a12 : T.at 12 = some { sh := [.a [0, 8, 3, 3, 5, 4, 5, 4, 0]] } := by kernel_rfl
theorem a13 : T.at 13 = some {} := by kernel_rfl
theorem a14 : T.at 14 = some {} := by kernel_rfl
theorem a27 : T.at 27 = some {} := by kernel_rfl
theorem a29 : T.at 29 = some {} := by kernel_rfl
theorem a30 : T.at 30 = some { lp := [(3, ⟨[0, 3, 4], [.s 3 2], [3], [.s 3 2]⟩)], sh := [.z 2] } := by kernel_rfl
theorem a32 : T.at 32 = some { lp := [(4, ⟨[0, 1, 5], [], [], []⟩)], rt := ⟨[4], [], [], []⟩ } := by kernel_rfl
theorem a34 : T.at 34 = some {} := by kernel_rfl
theorem a35 : T.at 35 = some { lp := [(5, ⟨[0, 1, 5], [], [1], []⟩)], rt := ⟨[4], [], [], []⟩ } := by kernel_rfl
theorem a36 : T.at 36 = some {} := by kernel_rfl
theorem a37 : T.at 37 = some {} := by kernel_rfl
theorem a38 : T.at 38 = some {} := by kernel_rfl
theorem a39 : T.at 39 = some {} := by kernel_rfl
theorem a40 : T.at 40 = some {} := by kernel_rfl
theorem a41 : T.at 41 = some { jn := [(1, (48, 3, 48)), (3, (86, 49, 86)), (5, (2, 87, 93))] } := by kernel_rfl
theorem a42 : T.at 42 = some { jn := [(6, (42, 25, 42))], lp := [(3, ⟨[1, 3, 4], [.s 1 0, .s 3 1], [], []⟩)], rt := ⟨[2], [], [], []⟩ } := by kernel_rfl
theorem a43 : T.at 43 = some { jn := [(6, (46, 23, 46))], lp := [(2, ⟨[1, 3], [.s 1 0], [], []⟩)], rt := ⟨[2], [], [], []⟩ } := by kernel_rfl
theorem a44 : T.at 44 = some { jn := [(6, (35, 23, 35)), (7, (48, 36, 48))], lp := [(2, ⟨[1, 3], [.s 1 0], [], []⟩)], rt := ⟨[2], [], [], []⟩ } := by kernel_rfl
theorem a45 : T.at 45 = some { jn := [(7, (2, 24, 32))], lp := [(4, ⟨[1, 3, 4, 5], [.s 1 0, .s 4 1], [1, 3], [.s 1 0]⟩)] } := by kernel_rfl
theorem a46 : T.at 46 = some { lp := [(3, ⟨[0, 3, 4], [.s 3 8], [3], [.s 3 8]⟩)], sh := [.z 8] } := by kernel_rfl
theorem a47 : T.at 47 = some { lp := [(3, ⟨[0, 3, 4], [.s 3 3], [3], [.s 3 3]⟩)], sh := [.z 3] } := by kernel_rfl
theorem a48 : T.at 48 = some { lp := [(3, ⟨[0, 3, 4], [.s 3 3], [3], [.s 3 3]⟩)], sh := [.z 3] } := by kernel_rfl
theorem a49 : T.at 49 = some { lp := [(3, ⟨[0, 3, 4], [.s 3 5], [3], [.s 3 5]⟩)], sh := [.z 5] } := by kernel_rfl
theorem a50 : T.at 50 = some { lp := [(3, ⟨[0, 3, 4], [.s 3 4], [3], [.s 3 4]⟩)], sh := [.z 4] } := by kernel_rfl
theorem a51 : T.at 51 = some { lp := [(3, ⟨[0, 3, 4], [.s 3 5], [3], [.s 3 5]⟩)], sh := [.z 5] } := by kernel_rfl
theorem a52 : T.at 52 = some { lp := [(3, ⟨[0, 3, 4], [.s 3 4], [3], [.s 3 4]⟩)], sh := [.z 4] } := by kernel_rfl
theorem a53 : T.at 53 = some { ord := [(1, [0, 1, 2, 3, 4, 5, 6, 7, 8, 9, 10, 11, 12, 13, 14, 15, 16, 17, 18, 19, 20, 21, 22, 23, 24, 25, 26, 27, 28, 29, 30, 31, 32, 33, 34, 35, 36, 37, 38, 39, 40, 41, 42, 44, 45, 43, 46, 47, 48, 49, 50, 51, 52, 53])], jn := [(1, (2, 3, 56))] } := by kernel_rfl
theorem a54 : T.at 54 = some { jn := [(6, (38, 22, 38))], lp := [(3, ⟨[1, 3, 13, 14, 15], [.s 1 0, .s 3 1], [], []⟩)], rt := ⟨[2], [], [], []⟩ } := by kernel_rfl
theorem a55 : T.at 55 = some { jn := [(4, (20, 13, 20)), (6, (38, 26, 38))], lp := [(2, ⟨[1, 7, 8, 9], [.s 1 0], [], []⟩)], rt := ⟨[2], [], [], []⟩ } := by kernel_rfl
theorem a56 : T.at 56 = some { jn := [(4, (20, 13, 20)), (6, (38, 26, 38))], lp := [(2, ⟨[1, 7, 8, 9], [.s 1 0], [], []⟩)], rt := ⟨[2], [], [], []⟩ } := by kernel_rfl
theorem a57 : T.at 57 = some { jn := [(7, (2, 21, 29))], lp := [(3, ⟨[1, 3, 8, 9, 10], [.s 1 0, .s 8 1], [1, 3], [.s 1 0]⟩)] } := by kernel_rfl
theorem a58 : T.at 58 = some { lp := [(4, ⟨[0, 1, 5], [], [], []⟩)], rt := ⟨[4], [], [], []⟩ } := by kernel_rfl
theorem a59 : T.at 59 = some { lp := [(4, ⟨[0, 1, 5], [], [], []⟩)], rt := ⟨[4], [], [], []⟩ } := by kernel_rfl
theorem a60 : T.at 60 = some { lp := [(4, ⟨[0, 1, 5], [], [], []⟩)], rt := ⟨[4], [], [], []⟩ } := by kernel_rfl
theorem a61 : T.at 61 = some { lp := [(4, ⟨[0, 1, 5], [], [], []⟩)], rt := ⟨[4], [], [], []⟩ } := by kernel_rfl
theorem a62 : T.at 62 = some { lp := [(4, ⟨[0, 1, 5], [], [], []⟩)], rt := ⟨[4], [], [], []⟩ } := by kernel_rfl
theorem a63 : T.at 63 = some { lp := [(4, ⟨[0, 1, 5], [], [], []⟩)], rt := ⟨[4], [], [], []⟩ } := by kernel_rfl
theorem a64 : T.at 64 = some { lp := [(4, ⟨[0, 1, 5], [], [], []⟩)], rt := ⟨[4], [], [], []⟩ } := by kernel_rfl
theorem a66 : T.at 66 = some { jn := [(1, (6, 7, 15))] } := by kernel_rfl
theorem a70 : T.at 70 = some { jn := [(1, (6, 7, 15))] } := by kernel_rfl
theorem a86 : T.at 86 = some { sh := [.z 2] } := by kernel_rfl
theorem a88 : T.at 88 = some { jn := [(1, (5, 6, 19)), (3, (19, 20, 30))] } := by kernel_rfl
theorem a90 : T.at 90 = some { sh := [.z 2] } := by kernel_rfl
theorem a92 : T.at 92 = some { jn := [(1, (5, 6, 19)), (3, (19, 20, 30))] } := by kernel_rfl
theorem a95 : T.at 95 = some { jn := [(4, (22, 12, 22))], lp := [(2, ⟨[0, 1, 5], [], [], []⟩)], rt := ⟨[4], [], [], []⟩ } := by kernel_rfl
theorem a97 : T.at 97 = some {} := by kernel_rfl
theorem a100 : T.at 100 = some { lp := [(2, ⟨[0, 1, 5], [], [], []⟩)], rt := ⟨[4], [], [], []⟩ } := by kernel_rfl
theorem a116 : T.at 116 = some {} := by kernel_rfl
theorem a117 : T.at 117 = some {} := by kernel_rfl
theorem a122 : T.at 122 = some {} := by kernel_rfl
theorem a123 : T.at 123 = some {} := by kernel_rfl
theorem a124 : T.at 124 = some { jn := [(4, (35, 10, 35))], lp := [(2, ⟨[0, 3], [], [0], []⟩)], rt := ⟨[2], [], [], []⟩ } := by kernel_rfl
theorem a125 : T.at 125 = some { jn := [(4, (61, 10, 61))], lp := [(2, ⟨[0, 3], [], [0], []⟩)], rt := ⟨[2], [], [], []⟩ } := by kernel_rfl
theorem a126 : T.at 126 = some { jn := [(4, (53, 11, 53)), (9, (77, 59, 77))], lp := [(2, ⟨[0, 3], [], [0], []⟩), (7, ⟨[0, 3, 4], [], [0, 3], []⟩)], rt := ⟨[2], [], [], []⟩ } := by kernel_rfl
theorem a127 : T.at 127 = some { jn := [(5, (58, 16, 58)), (10, (84, 64, 84))], lp := [(2, ⟨[0, 3], [], [0], []⟩), (8, ⟨[0, 3, 4, 5], [.s 4 0], [0, 3], []⟩)], rt := ⟨[2], [], [], []⟩ } := by kernel_rfl
theorem a128 : T.at 128 = some { jn := [(3, (15, 7, 15)), (7, (67, 25, 67)), (10, (96, 73, 96))], lp := [(3, ⟨[0, 3, 4], [], [0], []⟩)], rt := ⟨[2], [], [], []⟩ } := by kernel_rfl
theorem a129 : T.at 129 = some { jn := [(5, (58, 15, 58))], lp := [(2, ⟨[0, 3], [], [0], []⟩)], rt := ⟨[2], [], [], []⟩ } := by kernel_rfl
theorem a130 : T.at 130 = some { ord := [(13, [0, 1, 2, 3, 4, 5, 6, 7, 8, 9, 10, 11, 14, 15, 12, 13, 16, 17, 18, 19, 20, 21, 22, 23, 24, 25, 26, 27, 28, 29])], jn := [(13, (77, 48, 77)), (18, (103, 85, 103))], lp := [(5, ⟨[1, 3, 4], [.s 1 0, .s 3 1], [1, 3], [.s 1 0, .s 3 1]⟩), (10, ⟨[1, 3, 5], [.s 1 0, .s 3 1], [1], [.s 1 0]⟩), (16, ⟨[1, 7], [.s 1 0], [], []⟩)], rt := ⟨[2], [], [], []⟩ } := by kernel_rfl
theorem a131 : T.at 131 = some { ord := [(8, [0, 1, 2, 3, 4, 5, 6, 7, 8, 9, 10, 11, 12, 13, 14, 15, 16, 17, 18, 19, 20, 21, 22, 23, 24, 25, 26, 27, 28, 29, 30, 32, 33, 34, 35, 36, 38, 31, 37, 39, 40, 41, 42, 43, 44, 45, 46, 47])], jn := [(8, (77, 30, 77))], lp := [(4, ⟨[1, 3], [.s 1 0], [], []⟩)], rt := ⟨[2], [], [], []⟩ } := by kernel_rfl
theorem a132 : T.at 132 = some { jn := [(3, (16, 9, 16)), (6, (42, 28, 42))], lp := [(3, ⟨[0, 1, 5, 6], [.s 5 1], [5], [.s 5 1]⟩)], sh := [.z 1] } := by kernel_rfl
theorem a133 : T.at 133 = some { lp := [(3, ⟨[0, 1, 5, 6], [.s 5 5], [5], [.s 5 5]⟩)], sh := [.z 5] } := by kernel_rfl
theorem a134 : T.at 134 = some { lp := [(2, ⟨[0, 1, 5], [], [], []⟩)], rt := ⟨[4], [], [], []⟩ } := by kernel_rfl
theorem a135 : T.at 135 = some { jn := [(4, (41, 13, 41))], lp := [(2, ⟨[2, 3, 5], [.s 2 0, .s 3 0], [], []⟩)], rt := ⟨[4], [], [], []⟩ } := by kernel_rfl
theorem a136 : T.at 136 = some { jn := [(1, (4, 5, 13))] } := by kernel_rfl
theorem a137 : T.at 137 = some { ord := [(5, [0, 1, 2, 3, 4, 5, 7, 8, 9, 10, 11, 6, 12, 13])], lp := [(3, ⟨[0, 3, 4], [.s 3 1], [3], [.s 3 1]⟩)], sh := [.z 1] } := by kernel_rfl
theorem a138 : T.at 138 = some { jn := [(3, (14, 7, 14))], lp := [(3, ⟨[0, 1, 5, 6], [], [5], []⟩)] } := by kernel_rfl
theorem a139 : T.at 139 = some { sh := [.a [0, 2, 0]] } := by kernel_rfl
theorem a140 : T.at 140 = some {} := by kernel_rfl
theorem a141 : T.at 141 = some {} := by kernel_rfl
theorem a142 : T.at 142 = some {} := by kernel_rfl
theorem a143 : T.at 143 = some {} := by kernel_rfl
theorem a144 : T.at 144 = some {} := by kernel_rfl
theorem a145 : T.at 145 = some { jn := [(6, (34, 15, 34))], lp := [(4, ⟨[0, 8, 9, 10], [], [], []⟩)], rt := ⟨[2], [], [], []⟩ } := by kernel_rfl
theorem a146 : T.at 146 = some { jn := [(6, (51, 15, 51))], lp := [(4, ⟨[0, 8, 9, 10], [], [], []⟩)], rt := ⟨[2], [], [], []⟩ } := by kernel_rfl
theorem a147 : T.at 147 = some { jn := [(6, (54, 15, 54))], lp := [(4, ⟨[0, 8, 9, 10], [], [], []⟩)], rt := ⟨[2], [], [], []⟩ } := by kernel_rfl
theorem a148 : T.at 148 = some { jn := [(6, (59, 17, 59)), (11, (82, 68, 82))], lp := [(4, ⟨[0, 10, 11, 12], [], [], []⟩), (9, ⟨[0, 4, 10, 11, 12, 62, 63, 64], [.s 4 0], [0, 10, 11, 12], []⟩)], rt := ⟨[2], [], [], []⟩ } := by kernel_rfl
theorem a149 : T.at 149 = some { jn := [(7, (61, 17, 61)), (13, (83, 73, 83))], lp := [(5, ⟨[0, 3, 10, 11, 12], [], [], []⟩)], rt := ⟨[2], [], [], []⟩ } := by kernel_rfl
theorem a150 : T.at 150 = some { jn := [(6, (58, 15, 58))], lp := [(4, ⟨[0, 8, 9, 10], [], [], []⟩)], rt := ⟨[2], [], [], []⟩ } := by kernel_rfl
theorem a151 : T.at 151 = some { ord := [(7, [0, 1, 2, 3, 4, 5, 6, 7, 8, 9, 10, 11, 12, 13, 14, 15, 18, 19, 20, 21, 16, 17, 22, 23, 24])], jn := [(7, (54, 30, 54)), (13, (73, 63, 73))], lp := [(5, ⟨[1, 3, 23, 24, 25], [.s 1 0, .s 3 1], [1, 3], [.s 1 0, .s 3 1]⟩), (11, ⟨[1, 3, 57, 58, 59], [.s 1 0, .s 3 1], [1, 3], [.s 1 0, .s 3 1]⟩), (17, ⟨[1, 75, 76, 77], [.s 1 0, .s 75 1], [], []⟩)], rt := ⟨[2], [], [], []⟩ } := by kernel_rfl
theorem a152 : T.at 152 = some { ord := [(7, [0, 1, 2, 3, 4, 5, 6, 7, 8, 9, 10, 11, 12, 13, 14, 15, 16, 17, 18, 19, 20, 21, 22, 24, 26, 27, 23, 25, 28, 29, 30])], jn := [(7, (56, 26, 56))], lp := [(4, ⟨[1, 14, 15, 16], [.s 1 0], [], []⟩)], rt := ⟨[2], [], [], []⟩ } := by kernel_rfl
theorem a153 : T.at 153 = some { lp := [(3, ⟨[1, 3, 13, 14, 15], [.s 1 0], [1, 3], [.s 1 0]⟩), (8, ⟨[1, 3, 25, 26, 27], [.s 1 0], [1, 3], [.s 1 0]⟩), (13, ⟨[1, 3, 37, 38, 39], [.s 1 0], [1, 3], [.s 1 0]⟩), (18, ⟨[3, 49, 50, 51], [], [3], []⟩)] } := by kernel_rfl
theorem a154 : T.at 154 = some { ac := [(10, 0)], jn := [(7, (36, 20, 36))], lp := [(5, ⟨[0, 1, 5, 13, 14, 15], [.s 5 1], [5], [.s 5 1]⟩)], sh := [.z 1] } := by kernel_rfl
theorem a155 : T.at 155 = some { lp := [(2, ⟨[0, 1, 5], [], [], []⟩)], rt := ⟨[4], [], [], []⟩ } := by kernel_rfl
theorem a156 : T.at 156 = some {} := by kernel_rfl
theorem a157 : T.at 157 = some { jn := [(1, (4, 5, 14))] } := by kernel_rfl
theorem a158 : T.at 158 = some {} := by kernel_rfl
theorem a159 : T.at 159 = some { jn := [(1, (4, 5, 13))] } := by kernel_rfl
theorem a160 : T.at 160 = some { lp := [(3, ⟨[3, 7, 8, 9], [.s 3 1], [3], [.s 3 1]⟩)], sh := [.z 1] } := by kernel_rfl
theorem a161 : T.at 161 = some {} := by kernel_rfl
theorem a162 : T.at 162 = some {} := by kernel_rfl
theorem a163 : T.at 163 = some {} := by kernel_rfl
theorem a164 : T.at 164 = some {} := by kernel_rfl
theorem a165 : T.at 165 = some {} := by kernel_rfl
theorem a166 : T.at 166 = some {} := by kernel_rfl
theorem a167 : T.at 167 = some {} := by kernel_rfl
theorem a168 : T.at 168 = some {} := by kernel_rfl
theorem a179 : T.at 179 = some { lp := [(2, ⟨[0, 1, 5], [], [], []⟩)], rt := ⟨[4], [], [], []⟩ } := by kernel_rfl
theorem a182 : T.at 182 = some { jn := [(1, (2, 3, 26))] } := by kernel_rfl
theorem a183 : T.at 183 = some { jn := [(4, (43, 10, 43))], lp := [(2, ⟨[0, 3], [], [0], []⟩)], rt := ⟨[2], [], [], []⟩ } := by kernel_rfl
theorem a184 : T.at 184 = some {} := by kernel_rfl
theorem a185 : T.at 185 = some { lp := [(2, ⟨[0, 1, 7, 8], [], [], []⟩)], rt := ⟨[4], [], [], []⟩ } := by kernel_rfl
theorem a187 : T.at 187 = some {} := by kernel_rfl
theorem a188 : T.at 188 = some { sh := [.z 2] } := by kernel_rfl
theorem a191 : T.at 191 = some { jn := [(1, (2, 3, 26))] } := by kernel_rfl
theorem a192 : T.at 192 = some { jn := [(6, (39, 15, 39))], lp := [(4, ⟨[0, 8, 9, 10], [], [], []⟩)], rt := ⟨[2], [], [], []⟩ } := by kernel_rfl
theorem a193 : T.at 193 = some {} := by kernel_rfl
theorem a194 : T.at 194 = some {} := by kernel_rfl
theorem a197 : T.at 197 = some { lp := [(2, ⟨[0, 1, 7, 8], [], [], []⟩)], rt := ⟨[4], [], [], []⟩ } := by kernel_rfl
theorem a198 : T.at 198 = some {} := by kernel_rfl
theorem a203 : T.at 203 = some { jn := [(1, (2, 3, 26))] } := by kernel_rfl
theorem a204 : T.at 204 = some {} := by kernel_rfl
theorem a206 : T.at 206 = some { jn := [(1, (2, 3, 26))] } := by kernel_rfl
theorem a209 : T.at 209 = some {} := by kernel_rfl
theorem a213 : T.at 213 = some {} := by kernel_rfl
theorem a214 : T.at 214 = some { jn := [(1, (2, 3, 21))] } := by kernel_rfl
theorem a215 : T.at 215 = some { lp := [(3, ⟨[0, 1, 2, 7, 8], [], [7], []⟩)] } := by kernel_rfl
theorem a216 : T.at 216 = some { ot := [(6, .one 1 (.one 2 (.one 3 (.one 5 (.one 8 (.one 9 (.one 10 (.alt (.one 0 (.alt (.one 4 (.one 6 (.one 7 (.one 11 (.one 12 (.done)))))) (.one 6 (.one 4 (.one 7 (.one 11 (.one 12 (.done)))))))) (.one 6 (.one 0 (.one 4 (.one 7 (.one 11 (.one 12 (.done)))))))))))))))], jn := [(2, (17, 6, 17)), (4, (31, 20, 31))], lp := [(2, ⟨[0, 1, 5], [], [0, 1, 5], []⟩)], sh := [.z 1] } := by kernel_rfl
theorem a217 : T.at 217 = some {} := by kernel_rfl
theorem a218 : T.at 218 = some { jn := [(1, (2, 3, 21))] } := by kernel_rfl
theorem a219 : T.at 219 = some {} := by kernel_rfl
theorem a220 : T.at 220 = some {} := by kernel_rfl
theorem a222 : T.at 222 = some { lp := [(2, ⟨[0, 1, 7, 8], [], [], []⟩)], rt := ⟨[4], [], [], []⟩ } := by kernel_rfl
theorem a223 : T.at 223 = some { jn := [(1, (3, 4, 21))] } := by kernel_rfl
theorem a224 : T.at 224 = some { lp := [(2, ⟨[0, 1, 7, 8], [], [], []⟩)], rt := ⟨[4], [], [], []⟩ } := by kernel_rfl
theorem a225 : T.at 225 = some {} := by kernel_rfl
theorem a226 : T.at 226 = some {} := by kernel_rfl
theorem a227 : T.at 227 = some { ac := [(2, 0), (3, 0)], sh := [.z 1] } := by kernel_rfl
theorem a228 : T.at 228 = some { lp := [(3, ⟨[1, 5, 8, 9, 10], [], [5], []⟩)] } := by kernel_rfl
theorem a229 : T.at 229 = some { lp := [(5, ⟨[1, 5, 12, 13, 14], [], [5], []⟩)] } := by kernel_rfl
theorem a230 : T.at 230 = some {} := by kernel_rfl
theorem a233 : T.at 233 = some { lp := [(2, ⟨[0, 1, 7, 8], [], [], []⟩)], rt := ⟨[4], [], [], []⟩ } := by kernel_rfl
theorem a234 : T.at 234 = some {} := by kernel_rfl
theorem a239 : T.at 239 = some { lp := [(3, ⟨[0, 3, 4], [], [3], []⟩)] } := by kernel_rfl
theorem a244 : T.at 244 = some { lp := [(3, ⟨[3, 6, 7, 8], [], [3], []⟩)] } := by kernel_rfl
theorem a245 : T.at 245 = some { jn := [(5, (10, 11, 17))] } := by kernel_rfl
theorem a248 : T.at 248 = some {} := by kernel_rfl
theorem a249 : T.at 249 = some { lp := [(3, ⟨[0, 3, 9, 10, 11], [], [0, 3], []⟩), (11, ⟨[6, 25, 26, 27], [.s 6 1], [6], [.s 6 1]⟩)], sh := [.z 1] } := by kernel_rfl
theorem a251 : T.at 251 = some {} := by kernel_rfl
theorem a256 : T.at 256 = some {} := by kernel_rfl
theorem a272 : T.at 272 = some {} := by kernel_rfl
end Go.Proofs.YtlnajgoeoklioaaGreat
