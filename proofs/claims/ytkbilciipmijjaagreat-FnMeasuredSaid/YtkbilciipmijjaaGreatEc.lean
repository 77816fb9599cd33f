import Derived.Test.YtkbilciipmijjaaGreatEvB
import Derived.Test.YtkbilciipmijjaaGreatFn
import Derived.Test.YtkbilciipmijjaaGreatProg
import Derived.KernelRfl
namespace Go.Proofs.YtkbilciipmijjaaGreat
open Go Go.Proofs Go.Proofs.YtkbilciipmijjaaGreat.Am
set_option maxHeartbeats 4000000
set_option linter.unusedVariables false
set_option linter.unusedSimpArgs false
set_option linter.defProp false
set_option maxRecDepth 100000
def Vm (x : Int) : List AV := [.i .i64 x]
theorem Qj6 (x : Int) : Vm x = [.i .i64 x] := _root_.id rfl
instance (x : Int) : EncR Vm [.i .i64 x] x := ⟨rfl⟩
theorem QCx (xs : List Int) : Qs (xs.map Vm) = xs.map Vm := Qak (fun x => by simp only [Qj6, Vn, V6]) xs
theorem QC7 (xs : List Int) : Q1 (xs.map Vm) = true := J2 (fun x => by simp only [Qj6, XP, AV.clean, Bool.and_self]) xs
theorem QAY {R : List (List AV)} {xs : List Int} (i : Int) [h : EncL Vm R xs] : inb R i = inb xs i := by rw [h.eq, QnQ]
theorem QDM {R : List (List AV)} {xs : List Int} (i : Int) [h : EncL Vm R xs] (hi : inb xs i = true) : QC R i.toNat = Vm (gt xs i) := by rw [h.eq, Qob xs i hi]
theorem QCV (xs : List Int) : QaE (xs.map Vm) = true := Qkb (fun x => by rw [Qj6]; rfl) xs
def QaD (x : Int) : List AV := [.i .u8 x]
theorem QmY (x : Int) : QaD x = [.i .u8 x] := _root_.id rfl
instance (x : Int) : EncR QaD [.i .u8 x] x := ⟨rfl⟩
theorem Qz4 (xs : List Int) : Qs (xs.map QaD) = xs.map QaD := Qak (fun x => by simp only [QmY, Vn, V6]) xs
theorem QzP (xs : List Int) : Q1 (xs.map QaD) = true := J2 (fun x => by simp only [QmY, XP, AV.clean, Bool.and_self]) xs
theorem QLr {R : List (List AV)} {xs : List Int} (i : Int) [h : EncL QaD R xs] : inb R i = inb xs i := by rw [h.eq, QnQ]
theorem QHR {R : List (List AV)} {xs : List Int} (i : Int) [h : EncL QaD R xs] (hi : inb xs i = true) : QC R i.toNat = QaD (gt xs i) := by rw [h.eq, Qob xs i hi]
theorem QEA (xs : List Int) : QaE (xs.map QaD) = true := Qkb (fun x => by rw [QmY]; rfl) xs
def c_b (x : Bool) : List AV := [.b x]
theorem Qrd (x : Bool) : c_b x = [.b x] := _root_.id rfl
instance (x : Bool) : EncR c_b [.b x] x := ⟨rfl⟩
theorem QLE (xs : List Bool) : Qs (xs.map c_b) = xs.map c_b := Qak (fun x => by simp only [Qrd, Vn, V6]) xs
theorem QMV (xs : List Bool) : Q1 (xs.map c_b) = true := J2 (fun x => by simp only [Qrd, XP, AV.clean, Bool.and_self]) xs
theorem QLX {R : List (List AV)} {xs : List Bool} (i : Int) [h : EncL c_b R xs] : inb R i = inb xs i := by rw [h.eq, QnQ]
theorem QM4 {R : List (List AV)} {xs : List Bool} (i : Int) [h : EncL c_b R xs] (hi : inb xs i = true) : QC R i.toNat = c_b (gt xs i) := by rw [h.eq, Qob xs i hi]
theorem QPO (xs : List Bool) : QaE (xs.map c_b) = true := Qkb (fun x => by rw [Qrd]; rfl) xs
def c_s (x : List UInt8) : List AV := [.s x]
theorem Qra (x : List UInt8) : c_s x = [.s x] := _root_.id rfl
instance (x : List UInt8) : EncR c_s [.s x] x := ⟨rfl⟩
theorem QOn (xs : List (List UInt8)) : Qs (xs.map c_s) = xs.map c_s := Qak (fun x => by simp only [Qra, Vn, V6]) xs
theorem QPv (xs : List (List UInt8)) : Q1 (xs.map c_s) = true := J2 (fun x => by simp only [Qra, XP, AV.clean, Bool.and_self]) xs
theorem QO9 {R : List (List AV)} {xs : List (List UInt8)} (i : Int) [h : EncL c_s R xs] : inb R i = inb xs i := by rw [h.eq, QnQ]
theorem QOh {R : List (List AV)} {xs : List (List UInt8)} (i : Int) [h : EncL c_s R xs] (hi : inb xs i = true) : QC R i.toNat = c_s (gt xs i) := by rw [h.eq, Qob xs i hi]
theorem QNt (xs : List (List UInt8)) : QaE (xs.map c_s) = true := Qkb (fun x => by rw [Qra]; rfl) xs
def QM (x : l1Cur) : List AV := [.imm 1 (x.b.map QaD), .i .i64 x.i, .i .i64 x.h]
theorem QpB (x : l1Cur) : QM x = [.imm 1 (x.b.map QaD), .i .i64 x.i, .i .i64 x.h] := _root_.id rfl
instance (yxi yxh) {R1 yxb} [H1 : EncL QaD R1 yxb] : EncR QM [.imm 1 R1, .i .i64 yxi, .i .i64 yxh] (⟨yxb, yxi, yxh⟩ : l1Cur) := ⟨by obtain ⟨rfl⟩ := H1; rfl⟩
def Qj4 (x : l1Cur) : List AV := [.own 1 (x.b.map QaD), .i .i64 x.i, .i .i64 x.h]
theorem QiF (x : l1Cur) : Qj4 x = [.own 1 (x.b.map QaD), .i .i64 x.i, .i .i64 x.h] := _root_.id rfl
instance (yxi yxh) {R1 yxb} [H1 : EncL QaD R1 yxb] : EncR Qj4 [.own 1 R1, .i .i64 yxi, .i .i64 yxh] (⟨yxb, yxi, yxh⟩ : l1Cur) := ⟨by obtain ⟨rfl⟩ := H1; rfl⟩
theorem QwM (xs : List l1Cur) : Qs (xs.map Qj4) = xs.map QM := Qak (fun x => by simp only [QiF, QpB, Vn, V6, Qz4]) xs
theorem Qwj (xs : List l1Cur) : Q1 (xs.map Qj4) = true := J2 (fun x => by simp only [QiF, XP, AV.clean, Bool.and_self, QzP]) xs
theorem Qwk (x : l1Cur) : (⟨x.b, x.i, x.h⟩ : l1Cur) = x := _root_.id rfl
def QcC (x : Thing) : List AV := [.i .i64 x.Id, .i .i64 x.Kind, .i .i64 x.Colour, .i .i64 x.Size, .i .i64 x.Worth]
theorem QlD (x : Thing) : QcC x = [.i .i64 x.Id, .i .i64 x.Kind, .i .i64 x.Colour, .i .i64 x.Size, .i .i64 x.Worth] := _root_.id rfl
instance (yxId yxKind yxColour yxSize yxWorth)  : EncR QcC [.i .i64 yxId, .i .i64 yxKind, .i .i64 yxColour, .i .i64 yxSize, .i .i64 yxWorth] (⟨yxId, yxKind, yxColour, yxSize, yxWorth⟩ : Thing) := ⟨by rfl⟩
theorem QuD (xs : List Thing) : Qs (xs.map QcC) = xs.map QcC := Qak (fun x => by simp only [QlD, Vn, V6]) xs
theorem QwW (xs : List Thing) : Q1 (xs.map QcC) = true := J2 (fun x => by simp only [QlD, XP, AV.clean, Bool.and_self]) xs
theorem QwJ (x : Thing) : (⟨x.Id, x.Kind, x.Colour, x.Size, x.Worth⟩ : Thing) = x := _root_.id rfl
def QE (x : Find) : List AV := [.i .i64 x.Thing.Id, .i .i64 x.Thing.Kind, .i .i64 x.Thing.Colour, .i .i64 x.Thing.Size, .i .i64 x.Thing.Worth, .i .i64 x.Place, .i .i64 x.At, .i .i64 x.Finder]
theorem Qne (x : Find) : QE x = [.i .i64 x.Thing.Id, .i .i64 x.Thing.Kind, .i .i64 x.Thing.Colour, .i .i64 x.Thing.Size, .i .i64 x.Thing.Worth, .i .i64 x.Place, .i .i64 x.At, .i .i64 x.Finder] := _root_.id rfl
instance (yxThingxId yxThingxKind yxThingxColour yxThingxSize yxThingxWorth yxPlace yxAt yxFinder)  : EncR QE [.i .i64 yxThingxId, .i .i64 yxThingxKind, .i .i64 yxThingxColour, .i .i64 yxThingxSize, .i .i64 yxThingxWorth, .i .i64 yxPlace, .i .i64 yxAt, .i .i64 yxFinder] (⟨⟨yxThingxId, yxThingxKind, yxThingxColour, yxThingxSize, yxThingxWorth⟩, yxPlace, yxAt, yxFinder⟩ : Find) := ⟨by rfl⟩
theorem Qrm (xs : List Find) : Qs (xs.map QE) = xs.map QE := Qak (fun x => by simp only [Qne, Vn, V6]) xs
theorem QsA (xs : List Find) : Q1 (xs.map QE) = true := J2 (fun x => by simp only [Qne, XP, AV.clean, Bool.and_self]) xs
theorem QyG (x : Find) : (⟨x.Thing, x.Place, x.At, x.Finder⟩ : Find) = x := _root_.id rfl
def Vi (x : Slot) : List AV := [.i .i64 x.Id, .i .i64 x.Size, .i .i64 x.Thing]
theorem QmX (x : Slot) : Vi x = [.i .i64 x.Id, .i .i64 x.Size, .i .i64 x.Thing] := _root_.id rfl
instance (yxId yxSize yxThing)  : EncR Vi [.i .i64 yxId, .i .i64 yxSize, .i .i64 yxThing] (⟨yxId, yxSize, yxThing⟩ : Slot) := ⟨by rfl⟩
theorem Qsq (xs : List Slot) : Qs (xs.map Vi) = xs.map Vi := Qak (fun x => by simp only [QmX, Vn, V6]) xs
theorem Qr8 (xs : List Slot) : Q1 (xs.map Vi) = true := J2 (fun x => by simp only [QmX, XP, AV.clean, Bool.and_self]) xs
theorem Qxa (x : Slot) : (⟨x.Id, x.Size, x.Thing⟩ : Slot) = x := _root_.id rfl
def Xt (x : Mark) : List AV := [.i .i64 x.Question, .i .i64 x.Answer]
theorem QnB (x : Mark) : Xt x = [.i .i64 x.Question, .i .i64 x.Answer] := _root_.id rfl
instance (yxQuestion yxAnswer)  : EncR Xt [.i .i64 yxQuestion, .i .i64 yxAnswer] (⟨yxQuestion, yxAnswer⟩ : Mark) := ⟨by rfl⟩
theorem QnF (xs : List Mark) : Qs (xs.map Xt) = xs.map Xt := Qak (fun x => by simp only [QnB, Vn, V6]) xs
theorem QnG (xs : List Mark) : Q1 (xs.map Xt) = true := J2 (fun x => by simp only [QnB, XP, AV.clean, Bool.and_self]) xs
theorem QzA (x : Mark) : (⟨x.Question, x.Answer⟩ : Mark) = x := _root_.id rfl
def VA (x : Secret) : List AV := [.i .i64 x.Thing, .imm 2 (x.Marks.map Xt), .i .i64 x.Salt]
theorem Qmw (x : Secret) : VA x = [.i .i64 x.Thing, .imm 2 (x.Marks.map Xt), .i .i64 x.Salt] := _root_.id rfl
instance (yxThing yxSalt) {R1 yxMarks} [H1 : EncL Xt R1 yxMarks] : EncR VA [.i .i64 yxThing, .imm 2 R1, .i .i64 yxSalt] (⟨yxThing, yxMarks, yxSalt⟩ : Secret) := ⟨by obtain ⟨rfl⟩ := H1; rfl⟩
def VF (x : Secret) : List AV := [.i .i64 x.Thing, .own 2 (x.Marks.map Xt), .i .i64 x.Salt]
theorem Qg5 (x : Secret) : VF x = [.i .i64 x.Thing, .own 2 (x.Marks.map Xt), .i .i64 x.Salt] := _root_.id rfl
instance (yxThing yxSalt) {R1 yxMarks} [H1 : EncL Xt R1 yxMarks] : EncR VF [.i .i64 yxThing, .own 2 R1, .i .i64 yxSalt] (⟨yxThing, yxMarks, yxSalt⟩ : Secret) := ⟨by obtain ⟨rfl⟩ := H1; rfl⟩
theorem Qmk (xs : List Secret) : Qs (xs.map VF) = xs.map VA := Qak (fun x => by simp only [Qg5, Qmw, Vn, V6, QnF]) xs
theorem Qmq (xs : List Secret) : Q1 (xs.map VF) = true := J2 (fun x => by simp only [Qg5, XP, AV.clean, Bool.and_self, QnG]) xs
theorem QtN (x : Secret) : (⟨x.Thing, x.Marks, x.Salt⟩ : Secret) = x := _root_.id rfl
def Qw (x : Claim) : List AV := [.i .i64 x.Id, .i .i64 x.Who, .i .i64 x.Thing, .i .i64 x.At, .i .i64 x.State]
theorem QkZ (x : Claim) : Qw x = [.i .i64 x.Id, .i .i64 x.Who, .i .i64 x.Thing, .i .i64 x.At, .i .i64 x.State] := _root_.id rfl
instance (yxId yxWho yxThing yxAt yxState)  : EncR Qw [.i .i64 yxId, .i .i64 yxWho, .i .i64 yxThing, .i .i64 yxAt, .i .i64 yxState] (⟨yxId, yxWho, yxThing, yxAt, yxState⟩ : Claim) := ⟨by rfl⟩
theorem Qon (xs : List Claim) : Qs (xs.map Qw) = xs.map Qw := Qak (fun x => by simp only [QkZ, Vn, V6]) xs
theorem QoK (xs : List Claim) : Q1 (xs.map Qw) = true := J2 (fun x => by simp only [QkZ, XP, AV.clean, Bool.and_self]) xs
theorem Qul (x : Claim) : (⟨x.Id, x.Who, x.Thing, x.At, x.State⟩ : Claim) = x := _root_.id rfl
def Xk (x : Trial) : List AV := [.i .i64 x.Claim, .i .i64 x.Asked, .i .i64 x.Right, .i .i64 x.Wrong]
theorem Qkv (x : Trial) : Xk x = [.i .i64 x.Claim, .i .i64 x.Asked, .i .i64 x.Right, .i .i64 x.Wrong] := _root_.id rfl
instance (yxClaim yxAsked yxRight yxWrong)  : EncR Xk [.i .i64 yxClaim, .i .i64 yxAsked, .i .i64 yxRight, .i .i64 yxWrong] (⟨yxClaim, yxAsked, yxRight, yxWrong⟩ : Trial) := ⟨by rfl⟩
theorem Qo9 (xs : List Trial) : Qs (xs.map Xk) = xs.map Xk := Qak (fun x => by simp only [Qkv, Vn, V6]) xs
theorem QoQ (xs : List Trial) : Q1 (xs.map Xk) = true := J2 (fun x => by simp only [Qkv, XP, AV.clean, Bool.and_self]) xs
theorem QwI (x : Trial) : (⟨x.Claim, x.Asked, x.Right, x.Wrong⟩ : Trial) = x := _root_.id rfl
def VT (x : Hand) : List AV := [.i .i64 x.Thing, .i .i64 x.Holder, .i .i64 x.Who, .i .i64 x.At, .i .i64 x.Seal]
theorem Qns (x : Hand) : VT x = [.i .i64 x.Thing, .i .i64 x.Holder, .i .i64 x.Who, .i .i64 x.At, .i .i64 x.Seal] := _root_.id rfl
instance (yxThing yxHolder yxWho yxAt yxSeal)  : EncR VT [.i .i64 yxThing, .i .i64 yxHolder, .i .i64 yxWho, .i .i64 yxAt, .i .i64 yxSeal] (⟨yxThing, yxHolder, yxWho, yxAt, yxSeal⟩ : Hand) := ⟨by rfl⟩
theorem Qq9 (xs : List Hand) : Qs (xs.map VT) = xs.map VT := Qak (fun x => by simp only [Qns, Vn, V6]) xs
theorem QrA (xs : List Hand) : Q1 (xs.map VT) = true := J2 (fun x => by simp only [Qns, XP, AV.clean, Bool.and_self]) xs
theorem Qxs (x : Hand) : (⟨x.Thing, x.Holder, x.Who, x.At, x.Seal⟩ : Hand) = x := _root_.id rfl
def VO (x : Entry) : List AV := [.i .i64 x.From, .i .i64 x.To, .i .i64 x.Cents, .i .i64 x.At]
theorem Qk4 (x : Entry) : VO x = [.i .i64 x.From, .i .i64 x.To, .i .i64 x.Cents, .i .i64 x.At] := _root_.id rfl
instance (yxFrom yxTo yxCents yxAt)  : EncR VO [.i .i64 yxFrom, .i .i64 yxTo, .i .i64 yxCents, .i .i64 yxAt] (⟨yxFrom, yxTo, yxCents, yxAt⟩ : Entry) := ⟨by rfl⟩
theorem QnW (xs : List Entry) : Qs (xs.map VO) = xs.map VO := Qak (fun x => by simp only [Qk4, Vn, V6]) xs
theorem QpE (xs : List Entry) : Q1 (xs.map VO) = true := J2 (fun x => by simp only [Qk4, XP, AV.clean, Bool.and_self]) xs
theorem Qwf (x : Entry) : (⟨x.From, x.To, x.Cents, x.At⟩ : Entry) = x := _root_.id rfl
def Va (x : House) : List AV := [.i .i64 x.No, .imm 8 (x.Finds.map QE), .imm 3 (x.Secrets.map VA), .imm 3 (x.Slots.map Vi), .imm 5 (x.Claims.map Qw), .imm 4 (x.Trials.map Xk), .imm 5 (x.Chain.map VT), .imm 4 (x.Book.map VO), .i .i64 x.Now]
theorem QoS (x : House) : Va x = [.i .i64 x.No, .imm 8 (x.Finds.map QE), .imm 3 (x.Secrets.map VA), .imm 3 (x.Slots.map Vi), .imm 5 (x.Claims.map Qw), .imm 4 (x.Trials.map Xk), .imm 5 (x.Chain.map VT), .imm 4 (x.Book.map VO), .i .i64 x.Now] := _root_.id rfl
instance (yxNo yxNow) {R1 yxFinds R2 yxSecrets R3 yxSlots R4 yxClaims R5 yxTrials R6 yxChain R7 yxBook} [H1 : EncL QE R1 yxFinds] [H2 : EncL VA R2 yxSecrets] [H3 : EncL Vi R3 yxSlots] [H4 : EncL Qw R4 yxClaims] [H5 : EncL Xk R5 yxTrials] [H6 : EncL VT R6 yxChain] [H7 : EncL VO R7 yxBook] : EncR Va [.i .i64 yxNo, .imm 8 R1, .imm 3 R2, .imm 3 R3, .imm 5 R4, .imm 4 R5, .imm 5 R6, .imm 4 R7, .i .i64 yxNow] (⟨yxNo, yxFinds, yxSecrets, yxSlots, yxClaims, yxTrials, yxChain, yxBook, yxNow⟩ : House) := ⟨by obtain ⟨rfl⟩ := H1; obtain ⟨rfl⟩ := H2; obtain ⟨rfl⟩ := H3; obtain ⟨rfl⟩ := H4; obtain ⟨rfl⟩ := H5; obtain ⟨rfl⟩ := H6; obtain ⟨rfl⟩ := H7; rfl⟩
def JC (x : House) : List AV := [.i .i64 x.No, .own 8 (x.Finds.map QE), .own 3 (x.Secrets.map VF), .own 3 (x.Slots.map Vi), .own 5 (x.Claims.map Qw), .own 4 (x.Trials.map Xk), .own 5 (x.Chain.map VT), .own 4 (x.Book.map VO), .i .i64 x.Now]
theorem QiH (x : House) : JC x = [.i .i64 x.No, .own 8 (x.Finds.map QE), .own 3 (x.Secrets.map VF), .own 3 (x.Slots.map Vi), .own 5 (x.Claims.map Qw), .own 4 (x.Trials.map Xk), .own 5 (x.Chain.map VT), .own 4 (x.Book.map VO), .i .i64 x.Now] := _root_.id rfl
instance (yxNo yxNow) {R1 yxFinds R2 yxSecrets R3 yxSlots R4 yxClaims R5 yxTrials R6 yxChain R7 yxBook} [H1 : EncL QE R1 yxFinds] [H2 : EncL VF R2 yxSecrets] [H3 : EncL Vi R3 yxSlots] [H4 : EncL Qw R4 yxClaims] [H5 : EncL Xk R5 yxTrials] [H6 : EncL VT R6 yxChain] [H7 : EncL VO R7 yxBook] : EncR JC [.i .i64 yxNo, .own 8 R1, .own 3 R2, .own 3 R3, .own 5 R4, .own 4 R5, .own 5 R6, .own 4 R7, .i .i64 yxNow] (⟨yxNo, yxFinds, yxSecrets, yxSlots, yxClaims, yxTrials, yxChain, yxBook, yxNow⟩ : House) := ⟨by obtain ⟨rfl⟩ := H1; obtain ⟨rfl⟩ := H2; obtain ⟨rfl⟩ := H3; obtain ⟨rfl⟩ := H4; obtain ⟨rfl⟩ := H5; obtain ⟨rfl⟩ := H6; obtain ⟨rfl⟩ := H7; rfl⟩
theorem QwQ (xs : List House) : Qs (xs.map JC) = xs.map Va := Qak (fun x => by simp only [QiH, QoS, Vn, V6, Qon, QnW, Qrm, Qq9, Qmk, Qsq, Qo9]) xs
theorem QvU (xs : List House) : Q1 (xs.map JC) = true := J2 (fun x => by simp only [QiH, XP, AV.clean, Bool.and_self, QoK, QpE, QsA, QrA, Qmq, Qr8, QoQ]) xs
theorem Qwa (x : House) : (⟨x.No, x.Finds, x.Secrets, x.Slots, x.Claims, x.Trials, x.Chain, x.Book, x.Now⟩ : House) = x := _root_.id rfl
def Qa5 (x : Bid) : List AV := [.i .i64 x.Who, .i .i64 x.Cents, .i .i64 x.Seal]
theorem QnN (x : Bid) : Qa5 x = [.i .i64 x.Who, .i .i64 x.Cents, .i .i64 x.Seal] := _root_.id rfl
instance (yxWho yxCents yxSeal)  : EncR Qa5 [.i .i64 yxWho, .i .i64 yxCents, .i .i64 yxSeal] (⟨yxWho, yxCents, yxSeal⟩ : Bid) := ⟨by rfl⟩
theorem QvB (xs : List Bid) : Qs (xs.map Qa5) = xs.map Qa5 := Qak (fun x => by simp only [QnN, Vn, V6]) xs
theorem Qv4 (xs : List Bid) : Q1 (xs.map Qa5) = true := J2 (fun x => by simp only [QnN, XP, AV.clean, Bool.and_self]) xs
theorem QCg (x : Bid) : (⟨x.Who, x.Cents, x.Seal⟩ : Bid) = x := _root_.id rfl
theorem QD1 (xs : List Bid) : QaE (xs.map Qa5) = true := Qkb (fun x => by rw [QnN]; rfl) xs
def QgN (x : Event) : List AV := [.i .i64 x.Kind, .i .i64 x.Find.Thing.Id, .i .i64 x.Find.Thing.Kind, .i .i64 x.Find.Thing.Colour, .i .i64 x.Find.Thing.Size, .i .i64 x.Find.Thing.Worth, .i .i64 x.Find.Place, .i .i64 x.Find.At, .i .i64 x.Find.Finder, .imm 2 (x.Marks.map Xt), .i .i64 x.Id, .i .i64 x.Who, .i .i64 x.N, .imm 3 (x.Bids.map Qa5)]
theorem QoC (x : Event) : QgN x = [.i .i64 x.Kind, .i .i64 x.Find.Thing.Id, .i .i64 x.Find.Thing.Kind, .i .i64 x.Find.Thing.Colour, .i .i64 x.Find.Thing.Size, .i .i64 x.Find.Thing.Worth, .i .i64 x.Find.Place, .i .i64 x.Find.At, .i .i64 x.Find.Finder, .imm 2 (x.Marks.map Xt), .i .i64 x.Id, .i .i64 x.Who, .i .i64 x.N, .imm 3 (x.Bids.map Qa5)] := _root_.id rfl
instance (yxKind yxFindxThingxId yxFindxThingxKind yxFindxThingxColour yxFindxThingxSize yxFindxThingxWorth yxFindxPlace yxFindxAt yxFindxFinder yxId yxWho yxN) {R1 yxMarks R2 yxBids} [H1 : EncL Xt R1 yxMarks] [H2 : EncL Qa5 R2 yxBids] : EncR QgN [.i .i64 yxKind, .i .i64 yxFindxThingxId, .i .i64 yxFindxThingxKind, .i .i64 yxFindxThingxColour, .i .i64 yxFindxThingxSize, .i .i64 yxFindxThingxWorth, .i .i64 yxFindxPlace, .i .i64 yxFindxAt, .i .i64 yxFindxFinder, .imm 2 R1, .i .i64 yxId, .i .i64 yxWho, .i .i64 yxN, .imm 3 R2] (⟨yxKind, ⟨⟨yxFindxThingxId, yxFindxThingxKind, yxFindxThingxColour, yxFindxThingxSize, yxFindxThingxWorth⟩, yxFindxPlace, yxFindxAt, yxFindxFinder⟩, yxMarks, yxId, yxWho, yxN, yxBids⟩ : Event) := ⟨by obtain ⟨rfl⟩ := H1; obtain ⟨rfl⟩ := H2; rfl⟩
def Qek (x : Event) : List AV := [.i .i64 x.Kind, .i .i64 x.Find.Thing.Id, .i .i64 x.Find.Thing.Kind, .i .i64 x.Find.Thing.Colour, .i .i64 x.Find.Thing.Size, .i .i64 x.Find.Thing.Worth, .i .i64 x.Find.Place, .i .i64 x.Find.At, .i .i64 x.Find.Finder, .own 2 (x.Marks.map Xt), .i .i64 x.Id, .i .i64 x.Who, .i .i64 x.N, .own 3 (x.Bids.map Qa5)]
theorem QiU (x : Event) : Qek x = [.i .i64 x.Kind, .i .i64 x.Find.Thing.Id, .i .i64 x.Find.Thing.Kind, .i .i64 x.Find.Thing.Colour, .i .i64 x.Find.Thing.Size, .i .i64 x.Find.Thing.Worth, .i .i64 x.Find.Place, .i .i64 x.Find.At, .i .i64 x.Find.Finder, .own 2 (x.Marks.map Xt), .i .i64 x.Id, .i .i64 x.Who, .i .i64 x.N, .own 3 (x.Bids.map Qa5)] := _root_.id rfl
instance (yxKind yxFindxThingxId yxFindxThingxKind yxFindxThingxColour yxFindxThingxSize yxFindxThingxWorth yxFindxPlace yxFindxAt yxFindxFinder yxId yxWho yxN) {R1 yxMarks R2 yxBids} [H1 : EncL Xt R1 yxMarks] [H2 : EncL Qa5 R2 yxBids] : EncR Qek [.i .i64 yxKind, .i .i64 yxFindxThingxId, .i .i64 yxFindxThingxKind, .i .i64 yxFindxThingxColour, .i .i64 yxFindxThingxSize, .i .i64 yxFindxThingxWorth, .i .i64 yxFindxPlace, .i .i64 yxFindxAt, .i .i64 yxFindxFinder, .own 2 R1, .i .i64 yxId, .i .i64 yxWho, .i .i64 yxN, .own 3 R2] (⟨yxKind, ⟨⟨yxFindxThingxId, yxFindxThingxKind, yxFindxThingxColour, yxFindxThingxSize, yxFindxThingxWorth⟩, yxFindxPlace, yxFindxAt, yxFindxFinder⟩, yxMarks, yxId, yxWho, yxN, yxBids⟩ : Event) := ⟨by obtain ⟨rfl⟩ := H1; obtain ⟨rfl⟩ := H2; rfl⟩
theorem Qvp (xs : List Event) : Qs (xs.map Qek) = xs.map QgN := Qak (fun x => by simp only [QiU, QoC, Vn, V6, QvB, QnF]) xs
theorem QwL (xs : List Event) : Q1 (xs.map Qek) = true := J2 (fun x => by simp only [QiU, XP, AV.clean, Bool.and_self, Qv4, QnG]) xs
theorem QuE (x : Event) : (⟨x.Kind, x.Find, x.Marks, x.Id, x.Who, x.N, x.Bids⟩ : Event) = x := _root_.id rfl
def Qi9 (x : Share) : List AV := [.i .i64 x.Who, .i .i64 x.Cents]
theorem Qll (x : Share) : Qi9 x = [.i .i64 x.Who, .i .i64 x.Cents] := _root_.id rfl
instance (yxWho yxCents)  : EncR Qi9 [.i .i64 yxWho, .i .i64 yxCents] (⟨yxWho, yxCents⟩ : Share) := ⟨by rfl⟩
theorem QuV (xs : List Share) : Qs (xs.map Qi9) = xs.map Qi9 := Qak (fun x => by simp only [Qll, Vn, V6]) xs
theorem Qwn (xs : List Share) : Q1 (xs.map Qi9) = true := J2 (fun x => by simp only [Qll, XP, AV.clean, Bool.and_self]) xs
theorem Qu5 (x : Share) : (⟨x.Who, x.Cents⟩ : Share) = x := _root_.id rfl
def QKU := aI @Qj6 <| aI @QCx <| aI @QC7 <| aI @QAY <| aI @QDM <| aI @QCV <| aI @QmY <| aI @Qz4 <| aI @QzP <| aI @QLr <| aI @QHR <| aI @QEA <| aI @Qrd <| aI @QLE <| aI @QMV <| aI @QLX <| aI @QM4 <| aI @QPO <| aI @Qra <| aI @QOn <| aI @QPv <| aI @QO9 <| aI @QOh <| aI @QNt <| aI @QpB <| aI @QwM <| aI @Qwj <| aI @Qwk <| aI @QiF <| aI @QlD <| aI @QuD <| aI @QwW <| aI @QwJ <| aI @Qne <| aI @Qrm <| aI @QsA <| aI @QyG <| aI @QmX <| aI @Qsq <| aI @Qr8 <| aI @Qxa <| aI @QnB <| aI @QnF <| aI @QnG <| aI @QzA <| aI @Qmw <| aI @Qmk <| aI @Qmq <| aI @QtN <| aI @Qg5 <| aI @QkZ <| aI @Qon <| aI @QoK <| aI @Qul <| aI @Qkv <| aI @Qo9 <| aI @QoQ <| aI @QwI <| aI @Qns <| aI @Qq9 <| aI @QrA <| aI @Qxs <| aI @Qk4 <| aI @QnW <| aI @QpE <| aI @Qwf <| aI @QoS <| aI @QwQ <| aI @QvU <| aI @Qwa <| aI @QiH <| aI @QnN <| aI @QvB <| aI @Qv4 <| aI @QCg <| aI @QD1 <| aI @QoC <| aI @Qvp <| aI @QwL <| aI @QuE <| aI @QiU <| aI @Qll <| aI @QuV <| aI @Qwn @Qu5
theorem tys : bsl Tryz.prog 5 = false ∧ Qlo Tryz.prog 90 = true ∧ Qdc Tryz.prog 217 = [0, 0] ∧ Qdc Tryz.prog 24 = [0, 0, 0, 0, 0, 0, 0, 0] ∧ Qdc Tryz.prog 25 = [0, 2, 0] ∧ Qdc Tryz.prog 26 = [0, 0, 0] ∧ Qdc Tryz.prog 27 = [0, 0, 0, 0, 0] ∧ Qdc Tryz.prog 28 = [0, 0, 0, 0] ∧ Qdc Tryz.prog 29 = [0, 0, 0, 0, 0] ∧ Qdc Tryz.prog 30 = [0, 0, 0, 0] ∧ Qdc Tryz.prog 42 = [0] ∧ Qdc Tryz.prog 86 = [0, 0, 0, 0, 0, 0, 0, 0, 0, 2, 0, 0, 0, 3] ∧ Qdc Tryz.prog 90 = [0, 0] ∧ Qdc Tryz.prog 91 = [0, 0, 0] ∧ tb Tryz.prog 119 = some 24 ∧ tb Tryz.prog 126 = some 32 ∧ tb Tryz.prog 156 = some 16 ∧ tb Tryz.prog 158 = some 40 ∧ tb Tryz.prog 266 = some 24 ∧ tb Tryz.prog 3 = some 8 ∧ tb Tryz.prog 49 = some 32 ∧ tb Tryz.prog 63 = some 64 ∧ tb Tryz.prog 93 = some 144 ∧ tb Tryz.prog 95 = some 40 ∧ tb Tryz.prog 99 = some 40 ∧ tbd Tryz.prog 119 = .st [.i .i64 0, .i .i64 0, .i .i64 0] [(0, 1), (1, 1), (2, 1)] ∧ tbd Tryz.prog 126 = .st [.i .i64 0, .i .i64 0, .i .i64 0, .i .i64 0] [(0, 1), (1, 1), (2, 1), (3, 1)] ∧ tbd Tryz.prog 156 = .st [.i .i64 0, .i .i64 0] [(0, 1), (1, 1)] ∧ tbd Tryz.prog 158 = .st [.i .i64 0, .nil, .i .i64 0] [(0, 1), (1, 1), (2, 1)] ∧ tbd Tryz.prog 170 = .st [.nil, .i .i64 0, .i .i64 0] [(0, 1), (1, 1), (2, 1)] ∧ tbd Tryz.prog 220 = .st [.i .i64 0, .i .i64 0] [(0, 1), (1, 1)] ∧ tbd Tryz.prog 266 = .st [.i .i64 0, .i .i64 0, .i .i64 0] [(0, 1), (1, 1), (2, 1)] ∧ tbd Tryz.prog 32 = .st [.i .i64 0, .nil, .nil, .nil, .nil, .nil, .nil, .nil, .i .i64 0] [(0, 1), (1, 1), (2, 1), (3, 1), (4, 1), (5, 1), (6, 1), (7, 1), (8, 1)] ∧ tbd Tryz.prog 49 = .st [.i .i64 0, .i .i64 0, .i .i64 0, .i .i64 0] [(0, 1), (1, 1), (2, 1), (3, 1)] ∧ tbd Tryz.prog 61 = .st [.i .i64 0, .i .i64 0, .i .i64 0, .i .i64 0, .i .i64 0] [(0, 1), (1, 1), (2, 1), (3, 1), (4, 1)] ∧ tbd Tryz.prog 63 = .st [.i .i64 0, .i .i64 0, .i .i64 0, .i .i64 0, .i .i64 0, .i .i64 0, .i .i64 0, .i .i64 0] [(0, 5), (5, 1), (6, 1), (7, 1)] ∧ tbd Tryz.prog 93 = .st [.i .i64 0, .i .i64 0, .i .i64 0, .i .i64 0, .i .i64 0, .i .i64 0, .i .i64 0, .i .i64 0, .i .i64 0, .nil, .i .i64 0, .i .i64 0, .i .i64 0, .nil] [(0, 1), (1, 8), (9, 1), (10, 1), (11, 1), (12, 1), (13, 1)] ∧ tbd Tryz.prog 95 = .st [.i .i64 0, .i .i64 0, .i .i64 0, .i .i64 0, .i .i64 0] [(0, 1), (1, 1), (2, 1), (3, 1), (4, 1)] ∧ tbd Tryz.prog 99 = .st [.i .i64 0, .i .i64 0, .i .i64 0, .i .i64 0, .i .i64 0] [(0, 1), (1, 1), (2, 1), (3, 1), (4, 1)] ∧ QjA Tryz.prog 4 = some [.t] ∧ tfo Tryz.prog 119 0 = some (0, .one) ∧ tfo Tryz.prog 119 1 = some (1, .one) ∧ tfo Tryz.prog 119 2 = some (2, .one) ∧ tfo Tryz.prog 126 0 = some (0, .one) ∧ tfo Tryz.prog 126 1 = some (1, .one) ∧ tfo Tryz.prog 126 2 = some (2, .one) ∧ tfo Tryz.prog 126 3 = some (3, .one) ∧ tfo Tryz.prog 156 0 = some (0, .one) ∧ tfo Tryz.prog 156 1 = some (1, .one) ∧ tfo Tryz.prog 158 0 = some (0, .one) ∧ tfo Tryz.prog 158 1 = some (1, .one) ∧ tfo Tryz.prog 158 2 = some (2, .one) ∧ tfo Tryz.prog 170 0 = some (0, .one) ∧ tfo Tryz.prog 170 1 = some (1, .one) ∧ tfo Tryz.prog 170 2 = some (2, .one) ∧ tfo Tryz.prog 220 0 = some (0, .one) ∧ tfo Tryz.prog 220 1 = some (1, .one) ∧ tfo Tryz.prog 266 0 = some (0, .one) ∧ tfo Tryz.prog 266 1 = some (1, .one) ∧ tfo Tryz.prog 266 2 = some (2, .one) ∧ tfo Tryz.prog 32 0 = some (0, .one) ∧ tfo Tryz.prog 32 1 = some (1, .one) ∧ tfo Tryz.prog 32 2 = some (2, .one) ∧ tfo Tryz.prog 32 3 = some (3, .one) ∧ tfo Tryz.prog 32 4 = some (4, .one) ∧ tfo Tryz.prog 32 5 = some (5, .one) ∧ tfo Tryz.prog 32 6 = some (6, .one) ∧ tfo Tryz.prog 32 7 = some (7, .one) ∧ tfo Tryz.prog 32 8 = some (8, .one) ∧ tfo Tryz.prog 49 0 = some (0, .one) ∧ tfo Tryz.prog 49 1 = some (1, .one) ∧ tfo Tryz.prog 49 2 = some (2, .one) ∧ tfo Tryz.prog 49 3 = some (3, .one) ∧ tfo Tryz.prog 61 0 = some (0, .one) ∧ tfo Tryz.prog 61 1 = some (1, .one) ∧ tfo Tryz.prog 61 2 = some (2, .one) ∧ tfo Tryz.prog 61 3 = some (3, .one) ∧ tfo Tryz.prog 61 4 = some (4, .one) ∧ tfo Tryz.prog 63 0 = some (0, .agg 5) ∧ tfo Tryz.prog 63 1 = some (5, .one) ∧ tfo Tryz.prog 63 2 = some (6, .one) ∧ tfo Tryz.prog 63 3 = some (7, .one) ∧ tfo Tryz.prog 93 0 = some (0, .one) ∧ tfo Tryz.prog 93 1 = some (1, .agg 8) ∧ tfo Tryz.prog 93 2 = some (9, .one) ∧ tfo Tryz.prog 93 3 = some (10, .one) ∧ tfo Tryz.prog 93 4 = some (11, .one) ∧ tfo Tryz.prog 93 5 = some (12, .one) ∧ tfo Tryz.prog 93 6 = some (13, .one) ∧ tfo Tryz.prog 95 0 = some (0, .one) ∧ tfo Tryz.prog 95 1 = some (1, .one) ∧ tfo Tryz.prog 95 2 = some (2, .one) ∧ tfo Tryz.prog 95 3 = some (3, .one) ∧ tfo Tryz.prog 95 4 = some (4, .one) ∧ tfo Tryz.prog 99 0 = some (0, .one) ∧ tfo Tryz.prog 99 1 = some (1, .one) ∧ tfo Tryz.prog 99 2 = some (2, .one) ∧ tfo Tryz.prog 99 3 = some (3, .one) ∧ tfo Tryz.prog 99 4 = some (4, .one) ∧ ti Tryz.prog 217 = .sl 220 2 ∧ ti Tryz.prog 22 = .sl 5 1 ∧ ti Tryz.prog 24 = .sl 63 8 ∧ ti Tryz.prog 25 = .sl 158 3 ∧ ti Tryz.prog 26 = .sl 119 3 ∧ ti Tryz.prog 27 = .sl 99 5 ∧ ti Tryz.prog 28 = .sl 49 4 ∧ ti Tryz.prog 29 = .sl 95 5 ∧ ti Tryz.prog 3 = .int .i64 ∧ ti Tryz.prog 30 = .sl 126 4 ∧ ti Tryz.prog 42 = .sl 3 1 ∧ ti Tryz.prog 86 = .sl 93 14 ∧ ti Tryz.prog 90 = .sl 156 2 ∧ ti Tryz.prog 91 = .sl 266 3 ∧ tk Tryz.prog 119 = .agg 3 ∧ tk Tryz.prog 126 = .agg 4 ∧ tk Tryz.prog 156 = .agg 2 ∧ tk Tryz.prog 158 = .agg 3 ∧ tk Tryz.prog 22 = .one ∧ tk Tryz.prog 24 = .one ∧ tk Tryz.prog 25 = .one ∧ tk Tryz.prog 26 = .one ∧ tk Tryz.prog 266 = .agg 3 ∧ tk Tryz.prog 27 = .one ∧ tk Tryz.prog 28 = .one ∧ tk Tryz.prog 29 = .one ∧ tk Tryz.prog 3 = .one ∧ tk Tryz.prog 30 = .one ∧ tk Tryz.prog 32 = .agg 9 ∧ tk Tryz.prog 49 = .agg 4 ∧ tk Tryz.prog 5 = .one ∧ tk Tryz.prog 61 = .agg 5 ∧ tk Tryz.prog 63 = .agg 8 ∧ tk Tryz.prog 90 = .one ∧ tk Tryz.prog 91 = .one ∧ tk Tryz.prog 93 = .agg 14 ∧ tk Tryz.prog 95 = .agg 5 ∧ tk Tryz.prog 99 = .agg 5 ∧ Qal Tryz.prog 24 = true ∧ Qal Tryz.prog 25 = true ∧ Qal Tryz.prog 26 = true ∧ Qal Tryz.prog 27 = true ∧ Qal Tryz.prog 28 = true ∧ Qal Tryz.prog 29 = true ∧ Qal Tryz.prog 30 = true ∧ Qal Tryz.prog 42 = true ∧ Qal Tryz.prog 86 = true ∧ Qal Tryz.prog 90 = true ∧ Qal Tryz.prog 91 = true ∧ tok Tryz.prog 5 = true ∧ tse Tryz.prog 217 = some (220, 2, [.i .i64 0, .i .i64 0]) ∧ tse Tryz.prog 24 = some (63, 8, [.i .i64 0, .i .i64 0, .i .i64 0, .i .i64 0, .i .i64 0, .i .i64 0, .i .i64 0, .i .i64 0]) ∧ tse Tryz.prog 25 = some (158, 3, [.i .i64 0, .nil, .i .i64 0]) ∧ tse Tryz.prog 26 = some (119, 3, [.i .i64 0, .i .i64 0, .i .i64 0]) ∧ tse Tryz.prog 27 = some (99, 5, [.i .i64 0, .i .i64 0, .i .i64 0, .i .i64 0, .i .i64 0]) ∧ tse Tryz.prog 28 = some (49, 4, [.i .i64 0, .i .i64 0, .i .i64 0, .i .i64 0]) ∧ tse Tryz.prog 29 = some (95, 5, [.i .i64 0, .i .i64 0, .i .i64 0, .i .i64 0, .i .i64 0]) ∧ tse Tryz.prog 30 = some (126, 4, [.i .i64 0, .i .i64 0, .i .i64 0, .i .i64 0]) ∧ tse Tryz.prog 42 = some (3, 1, [.i .i64 0]) ∧ tse Tryz.prog 86 = some (93, 14, [.i .i64 0, .i .i64 0, .i .i64 0, .i .i64 0, .i .i64 0, .i .i64 0, .i .i64 0, .i .i64 0, .i .i64 0, .nil, .i .i64 0, .i .i64 0, .i .i64 0, .nil]) ∧ tse Tryz.prog 90 = some (156, 2, [.i .i64 0, .i .i64 0]) ∧ tse Tryz.prog 91 = some (266, 3, [.i .i64 0, .i .i64 0, .i .i64 0]) ∧ tzc Tryz.prog 119 = some [.i .i64 0, .i .i64 0, .i .i64 0] ∧ tzc Tryz.prog 126 = some [.i .i64 0, .i .i64 0, .i .i64 0, .i .i64 0] ∧ tzc Tryz.prog 156 = some [.i .i64 0, .i .i64 0] ∧ tzc Tryz.prog 158 = some [.i .i64 0, .nil, .i .i64 0] ∧ tzc Tryz.prog 266 = some [.i .i64 0, .i .i64 0, .i .i64 0] ∧ tzc Tryz.prog 32 = some [.i .i64 0, .nil, .nil, .nil, .nil, .nil, .nil, .nil, .i .i64 0] ∧ tzc Tryz.prog 49 = some [.i .i64 0, .i .i64 0, .i .i64 0, .i .i64 0] ∧ tzc Tryz.prog 61 = some [.i .i64 0, .i .i64 0, .i .i64 0, .i .i64 0, .i .i64 0] ∧ tzc Tryz.prog 63 = some [.i .i64 0, .i .i64 0, .i .i64 0, .i .i64 0, .i .i64 0, .i .i64 0, .i .i64 0, .i .i64 0] ∧ tzc Tryz.prog 93 = some [.i .i64 0, .i .i64 0, .i .i64 0, .i .i64 0, .i .i64 0, .i .i64 0, .i .i64 0, .i .i64 0, .i .i64 0, .nil, .i .i64 0, .i .i64 0, .i .i64 0, .nil] ∧ tzc Tryz.prog 95 = some [.i .i64 0, .i .i64 0, .i .i64 0, .i .i64 0, .i .i64 0] ∧ tzc Tryz.prog 99 = some [.i .i64 0, .i .i64 0, .i .i64 0, .i .i64 0, .i .i64 0] := by and_intros <;> kernel_rfl
def An5 : Ann := { jn := [(12, (48, 33, 48)), (15, (54, 49, 54)), (21, (75, 68, 75)), (28, (2, 97, 120))], lp := [(6, ⟨[0, 3, 4, 5], [.s 3 8], [0, 3, 4], [.s 3 8]⟩), (15, ⟨[0, 3, 6, 7], [.s 3 8], [0, 3], [.s 3 8]⟩), (21, ⟨[0, 3, 8, 9], [.s 3 8], [0, 3], [.s 3 8]⟩)], rt := ⟨[2], [], [], []⟩ }
def An8 : Ann := {}
def Qx3 : Ann := { ord := [(1, [0, 1, 2, 3, 4, 5, 6, 7, 8, 9, 10, 11, 12, 13, 14, 15, 16, 17, 18, 19, 20, 21, 22, 23, 24, 25, 26, 27, 28, 29, 30, 31, 32, 33, 34, 35, 36, 37, 38, 39, 40, 41, 42, 44, 45, 43, 46, 47, 48, 49, 50, 51, 52, 53])], jn := [(1, (2, 3, 56))] }
def QwV : Ann := { jn := [(6, (54, 15, 54))], lp := [(4, ⟨[0, 8, 9, 10], [], [], []⟩)], rt := ⟨[2], [], [], []⟩ }
def Qv0 : Ann := { ac := [(10, 0)], jn := [(7, (36, 20, 36))], lp := [(5, ⟨[0, 1, 5, 13, 14, 15], [.s 5 1], [5], [.s 5 1]⟩)], sh := [.z 1] }
def Qzb : Ann := { sh := [.z 8] }
def Qt3 : Ann := { lp := [(3, ⟨[1, 5, 8, 9, 10], [], [5], []⟩)] }
def Qwv : Ann := { lp := [(5, ⟨[0, 3, 4, 5], [], [3], []⟩)] }
def Qvs : Ann := { jn := [(6, (34, 15, 34))], lp := [(4, ⟨[0, 8, 9, 10], [], [], []⟩)], rt := ⟨[2], [], [], []⟩ }
def QuL : Ann := { jn := [(4, (35, 10, 35))], lp := [(2, ⟨[0, 3], [], [0], []⟩)], rt := ⟨[2], [], [], []⟩ }
def Qvq : Ann := { lp := [(3, ⟨[1, 5, 9, 10, 11], [.s 5 1], [5], [.s 5 1]⟩)], sh := [.z 1] }
def QvL : Ann := { lp := [(5, ⟨[3, 12, 13, 14], [.s 3 0], [3], [.s 3 0]⟩)] }
def QyZ : Ann := {}
def Qvf : Ann := { av := [(1, [74]), (2, [99]), (6, [76])], lp := [(4, ⟨[2, 3, 4, 5], [.s 2 0, .s 3 0, .s 4 0, .c 2 1 8, .c 2 2 3, .c 2 3 3, .c 2 4 5, .c 2 5 4, .c 2 6 5, .c 2 7 4], [2, 4], [.s 2 0, .s 4 0, .c 1 1 8, .c 1 2 3, .c 1 3 3, .c 1 4 5, .c 1 5 4, .c 1 6 5, .c 1 7 4]⟩)], sh := [.a [0, 8, 3, 3, 5, 4, 5, 4, 0]] }
def Qxn : Ann := { sh := [.z 5] }
def QvD : Ann := { lp := [(5, ⟨[1, 3, 11, 12, 13], [.s 1 0], [1, 3], [.s 1 0]⟩)] }
def Qu9 : Ann := { lp := [(3, ⟨[3, 6, 7, 8], [], [3], []⟩)] }
def Qub : Ann := { lp := [(3, ⟨[3, 6, 7, 8], [], [3], []⟩)] }
def Qzg : Ann := { jn := [(1, (48, 3, 48)), (3, (86, 49, 86)), (5, (2, 87, 93))] }
def Qzo : Ann := {}
def Qzf : Ann := { sh := [.z 2] }
def Qyy : Ann := { jn := [(1, (6, 7, 15))] }
def Qvv : Ann := { jn := [(6, (51, 15, 51))], lp := [(4, ⟨[0, 8, 9, 10], [], [], []⟩)], rt := ⟨[2], [], [], []⟩ }
def QtP : Ann := { jn := [(6, (59, 17, 59)), (11, (82, 68, 82))], lp := [(4, ⟨[0, 10, 11, 12], [], [], []⟩), (9, ⟨[0, 4, 10, 11, 12, 62, 63, 64], [.s 4 0], [0, 10, 11, 12], []⟩)], rt := ⟨[2], [], [], []⟩ }
def Quy : Ann := { jn := [(7, (61, 17, 61)), (13, (83, 73, 83))], lp := [(5, ⟨[0, 3, 10, 11, 12], [], [], []⟩)], rt := ⟨[2], [], [], []⟩ }
def Qv8 : Ann := { jn := [(6, (58, 15, 58))], lp := [(4, ⟨[0, 8, 9, 10], [], [], []⟩)], rt := ⟨[2], [], [], []⟩ }
def Qp4 : Ann := { ord := [(7, [0, 1, 2, 3, 4, 5, 6, 7, 8, 9, 10, 11, 12, 13, 14, 15, 18, 19, 20, 21, 16, 17, 22, 23, 24])], jn := [(7, (54, 30, 54)), (13, (73, 63, 73))], lp := [(5, ⟨[1, 3, 23, 24, 25], [.s 1 0, .s 3 1], [1, 3], [.s 1 0, .s 3 1]⟩), (11, ⟨[1, 3, 57, 58, 59], [.s 1 0, .s 3 1], [1, 3], [.s 1 0, .s 3 1]⟩), (17, ⟨[1, 75, 76, 77], [.s 1 0, .s 75 1], [], []⟩)], rt := ⟨[2], [], [], []⟩ }
def Qvt : Ann := { ord := [(7, [0, 1, 2, 3, 4, 5, 6, 7, 8, 9, 10, 11, 12, 13, 14, 15, 16, 17, 18, 19, 20, 21, 22, 24, 26, 27, 23, 25, 28, 29, 30])], jn := [(7, (56, 26, 56))], lp := [(4, ⟨[1, 14, 15, 16], [.s 1 0], [], []⟩)], rt := ⟨[2], [], [], []⟩ }
def Qpr : Ann := { lp := [(3, ⟨[1, 3, 13, 14, 15], [.s 1 0], [1, 3], [.s 1 0]⟩), (8, ⟨[1, 3, 25, 26, 27], [.s 1 0], [1, 3], [.s 1 0]⟩), (13, ⟨[1, 3, 37, 38, 39], [.s 1 0], [1, 3], [.s 1 0]⟩), (18, ⟨[3, 49, 50, 51], [], [3], []⟩)] }
def Qw9 : Ann := { lp := [(2, ⟨[0, 1, 5], [], [], []⟩)], rt := ⟨[4], [], [], []⟩ }
def Qyj : Ann := {}
def QyA : Ann := {}
def Qt0 : Ann := { nr := some [.s 32 0], jn := [(3, (15, 8, 15))], lp := [(3, ⟨[0, 3, 4], [], [0, 3], []⟩)] }
def QyN : Ann := { ak := [0, 1], av := [(1, [84])] }
def Qyl : Ann := { ak := [0], av := [(1, [84])] }
def QuK : Ann := { nr := some [.r 0, .s 23 3], ak := [0], av := [(3, [84]), (5, [84])], lp := [(3, ⟨[0, 3, 4], [.s 0 0, .s 3 3], [0, 3], [.s 0 0, .s 3 3]⟩)], sh := [.z 3] }
def QyP : Ann := {}
def Qxd : Ann := { ak := [0], av := [(4, [158]), (5, [158]), (6, [158]), (7, [158])] }
def Qyr : Ann := { ord := [(1, [0, 1, 2, 3, 4, 6, 7, 9, 10, 11, 13, 14, 15, 17, 18, 19, 21, 22, 23, 25, 26, 27, 29, 30, 5, 8, 12, 16, 20, 24, 28, 31, 32])], eb := [(1, [5, 12, 16, 20, 24, 28])], sh := [.a [0, 8, 3, 3, 5, 4, 5, 4, 0]] }
def QxL : Ann := { av := [(1, [74]), (2, [153])], sh := [.z 8] }
def Qxy : Ann := { jn := [(1, (2, 3, 21))] }
def QyD : Ann := { jn := [(1, (2, 3, 21))] }
def Qw4 : Ann := { lp := [(2, ⟨[0, 1, 7, 8], [], [], []⟩)], rt := ⟨[4], [], [], []⟩ }
def QyR : Ann := {}
def Qzw : Ann := { ot := [(8, .one 2 (.alt (.one 0 (.alt (.one 1 (.alt (.one 3 (.one 4 (.one 5 (.one 6 (.one 7 (.one 8 (.one 9 (.one 10 (.one 11 (.one 12 (.one 13 (.done)))))))))))) (.one 5 (.alt (.one 3 (.one 4 (.one 6 (.one 7 (.one 8 (.one 9 (.one 10 (.one 11 (.one 12 (.one 13 (.done))))))))))) (.one 6 (.one 3 (.one 4 (.one 7 (.one 8 (.one 9 (.one 10 (.one 11 (.one 12 (.one 13 (.done))))))))))))))) (.alt (.one 3 (.one 1 (.one 4 (.one 5 (.one 6 (.one 7 (.one 8 (.one 9 (.one 10 (.one 11 (.one 12 (.one 13 (.done))))))))))))) (.one 5 (.alt (.one 1 (.alt (.one 3 (.one 4 (.one 6 (.one 7 (.one 8 (.one 9 (.one 10 (.one 11 (.one 12 (.one 13 (.done))))))))))) (.one 6 (.one 3 (.one 4 (.one 7 (.one 8 (.one 9 (.one 10 (.one 11 (.one 12 (.one 13 (.done))))))))))))) (.alt (.one 3 (.one 1 (.one 4 (.one 6 (.one 7 (.one 8 (.one 9 (.one 10 (.one 11 (.one 12 (.one 13 (.done)))))))))))) (.one 6 (.alt (.one 1 (.one 3 (.one 4 (.one 7 (.one 8 (.one 9 (.one 10 (.one 11 (.one 12 (.one 13 (.done))))))))))) (.one 3 (.one 1 (.one 4 (.one 7 (.one 8 (.one 9 (.one 10 (.one 11 (.one 12 (.one 13 (.done))))))))))))))))))) (.alt (.one 3 (.one 0 (.one 1 (.one 4 (.one 5 (.one 6 (.one 7 (.one 8 (.one 9 (.one 10 (.one 11 (.one 12 (.one 13 (.done)))))))))))))) (.one 5 (.alt (.one 0 (.alt (.one 1 (.alt (.one 3 (.one 4 (.one 6 (.one 7 (.one 8 (.one 9 (.one 10 (.one 11 (.one 12 (.one 13 (.done))))))))))) (.one 6 (.one 3 (.one 4 (.one 7 (.one 8 (.one 9 (.one 10 (.one 11 (.one 12 (.one 13 (.done))))))))))))) (.alt (.one 3 (.one 1 (.one 4 (.one 6 (.one 7 (.one 8 (.one 9 (.one 10 (.one 11 (.one 12 (.one 13 (.done)))))))))))) (.one 6 (.alt (.one 1 (.one 3 (.one 4 (.one 7 (.one 8 (.one 9 (.one 10 (.one 11 (.one 12 (.one 13 (.done))))))))))) (.one 3 (.one 1 (.one 4 (.one 7 (.one 8 (.one 9 (.one 10 (.one 11 (.one 12 (.one 13 (.done)))))))))))))))) (.alt (.one 3 (.one 0 (.one 1 (.one 4 (.one 6 (.one 7 (.one 8 (.one 9 (.one 10 (.one 11 (.one 12 (.one 13 (.done))))))))))))) (.one 6 (.alt (.one 0 (.alt (.one 1 (.one 3 (.one 4 (.one 7 (.one 8 (.one 9 (.one 10 (.one 11 (.one 12 (.one 13 (.done))))))))))) (.one 3 (.one 1 (.one 4 (.one 7 (.one 8 (.one 9 (.one 10 (.one 11 (.one 12 (.one 13 (.done))))))))))))) (.one 3 (.one 0 (.one 1 (.one 4 (.one 7 (.one 8 (.one 9 (.one 10 (.one 11 (.one 12 (.one 13 (.done))))))))))))))))))))], nr := some [.r 0, .g 53 1 8, .g 53 2 3, .g 53 3 3, .g 53 4 5, .g 53 5 4, .g 53 6 5, .g 53 7 4], ak := [0], av := [(1, [102, 103]), (2, [84]), (8, [84])], sh := [.a [0, 8, 3, 3, 5, 4, 5, 4, 0]] }
def Qsk : Ann := { av := [(1, [74]), (2, [154])], sh := [.z 5] }
def QoG : Ann := { lp := [(3, ⟨[1, 4, 5, 6], [.s 4 0, .s 5 0, .c 1 1 8, .c 1 2 3, .c 1 3 3, .c 1 4 5, .c 1 5 4, .c 1 6 5, .c 1 7 4], [4, 5], [.s 4 0, .s 5 0, .c 1 1 8, .c 1 2 3, .c 1 3 3, .c 1 4 5, .c 1 5 4, .c 1 6 5, .c 1 7 4]⟩)], sh := [.a [0, 8, 3, 3, 5, 4, 5, 4, 0]] }
def Qr0 : Ann := { nr := some [.r 0, .g 15 1 8, .g 15 2 3, .g 15 3 3, .g 15 4 5, .g 15 5 4, .g 15 6 5, .g 15 7 4], ak := [0], av := [(1, [78, 84])], sh := [.a [0, 8, 3, 3, 5, 4, 5, 4, 0]] }
def Qok : Ann := { nr := some [.r 0, .s 26 14], ak := [0], av := [(1, [171]), (2, [84]), (5, [172])], lp := [(3, ⟨[0, 5, 6], [.s 0 0, .s 5 14], [0, 5], [.s 0 0, .s 5 14]⟩)], sh := [.z 14] }
def Qq8 : Ann := { jn := [(1, (6, 7, 15))] }
def Qn8 : Ann := { jn := [(4, (61, 10, 61))], lp := [(2, ⟨[0, 3], [], [0], []⟩)], rt := ⟨[2], [], [], []⟩ }
def Qmp : Ann := { jn := [(4, (53, 11, 53)), (9, (77, 59, 77))], lp := [(2, ⟨[0, 3], [], [0], []⟩), (7, ⟨[0, 3, 4], [], [0, 3], []⟩)], rt := ⟨[2], [], [], []⟩ }
def Qmx : Ann := { jn := [(5, (58, 16, 58)), (10, (84, 64, 84))], lp := [(2, ⟨[0, 3], [], [0], []⟩), (8, ⟨[0, 3, 4, 5], [.s 4 0], [0, 3], []⟩)], rt := ⟨[2], [], [], []⟩ }
def QoI : Ann := { jn := [(3, (15, 7, 15)), (7, (67, 25, 67)), (10, (96, 73, 96))], lp := [(3, ⟨[0, 3, 4], [], [0], []⟩)], rt := ⟨[2], [], [], []⟩ }
def Qo6 : Ann := { jn := [(5, (58, 15, 58))], lp := [(2, ⟨[0, 3], [], [0], []⟩)], rt := ⟨[2], [], [], []⟩ }
def Qk0 : Ann := { ord := [(13, [0, 1, 2, 3, 4, 5, 6, 7, 8, 9, 10, 11, 14, 15, 12, 13, 16, 17, 18, 19, 20, 21, 22, 23, 24, 25, 26, 27, 28, 29])], jn := [(13, (77, 48, 77)), (18, (103, 85, 103))], lp := [(5, ⟨[1, 3, 4], [.s 1 0, .s 3 1], [1, 3], [.s 1 0, .s 3 1]⟩), (10, ⟨[1, 3, 5], [.s 1 0, .s 3 1], [1], [.s 1 0]⟩), (16, ⟨[1, 7], [.s 1 0], [], []⟩)], rt := ⟨[2], [], [], []⟩ }
def Qoo : Ann := { ord := [(8, [0, 1, 2, 3, 4, 5, 6, 7, 8, 9, 10, 11, 12, 13, 14, 15, 16, 17, 18, 19, 20, 21, 22, 23, 24, 25, 26, 27, 28, 29, 30, 32, 33, 34, 35, 36, 38, 31, 37, 39, 40, 41, 42, 43, 44, 45, 46, 47])], jn := [(8, (77, 30, 77))], lp := [(4, ⟨[1, 3], [.s 1 0], [], []⟩)], rt := ⟨[2], [], [], []⟩ }
def QrI : Ann := {}
def Qsy : Ann := { sh := [.z 2] }
def Qot : Ann := { jn := [(6, (39, 15, 39))], lp := [(4, ⟨[0, 8, 9, 10], [], [], []⟩)], rt := ⟨[2], [], [], []⟩ }
def QsW : Ann := {}
def Qre : Ann := { jn := [(1, (2, 3, 26))] }
def Qrp : Ann := { jn := [(1, (5, 6, 19)), (3, (19, 20, 30))] }
def Qr1 : Ann := {}
def QoV : Ann := { lp := [(2, ⟨[0, 1, 7, 8], [], [], []⟩)], rt := ⟨[4], [], [], []⟩ }
def QsE : Ann := {}
def Qpf : Ann := { lp := [(2, ⟨[0, 1, 7, 8], [], [], []⟩)], rt := ⟨[4], [], [], []⟩ }
def Qsm : Ann := { ak := [0], av := [(1, [75])] }
def QrK : Ann := { jn := [(2, (20, 11, 20))], sh := [.a [0, 8, 3, 3, 5, 4, 5, 4, 0], .n] }
def Qsd : Ann := { nr := some [.r 0, .s 52 8], ak := [0], av := [(1, [235]), (4, [84]), (5, [84]), (7, [236]), (9, [75]), (11, [149]), (13, [75])], sh := [.z 8] }
def Qrj : Ann := { nr := some [.r 0, .s 53 5], ak := [0], av := [(1, [237]), (4, [84]), (5, [84]), (7, [75]), (9, [149]), (11, [75]), (13, [75])], sh := [.z 5] }
def Qsg : Ann := { ot := [(2, .one 0 (.one 5 (.alt (.one 1 (.alt (.one 2 (.alt (.one 3 (.one 4 (.one 6 (.one 7 (.one 8 (.one 9 (.one 10 (.one 11 (.one 12 (.done)))))))))) (.one 6 (.one 3 (.one 4 (.one 7 (.one 8 (.one 9 (.one 10 (.one 11 (.one 12 (.done)))))))))))) (.one 6 (.one 2 (.one 3 (.one 4 (.one 7 (.one 8 (.one 9 (.one 10 (.one 11 (.one 12 (.done))))))))))))) (.one 6 (.alt (.one 1 (.one 2 (.one 3 (.one 4 (.one 7 (.one 8 (.one 9 (.one 10 (.one 11 (.one 12 (.done))))))))))) (.one 7 (.alt (.one 1 (.one 2 (.one 3 (.one 4 (.one 8 (.one 9 (.one 10 (.one 11 (.one 12 (.done)))))))))) (.one 8 (.one 9 (.one 1 (.one 2 (.one 3 (.one 4 (.one 10 (.one 11 (.one 12 (.done))))))))))))))))), (3, .one 0 (.one 4 (.alt (.one 1 (.alt (.one 2 (.alt (.one 3 (.one 5 (.one 6 (.one 7 (.one 8 (.one 9 (.done))))))) (.one 5 (.one 3 (.one 6 (.one 7 (.one 8 (.one 9 (.done))))))))) (.one 5 (.one 2 (.one 3 (.one 6 (.one 7 (.one 8 (.one 9 (.done)))))))))) (.one 5 (.alt (.one 1 (.one 2 (.one 3 (.one 6 (.one 7 (.one 8 (.one 9 (.done)))))))) (.one 6 (.alt (.one 1 (.one 2 (.one 3 (.one 7 (.one 8 (.one 9 (.done))))))) (.one 7 (.alt (.one 1 (.one 2 (.one 3 (.one 8 (.one 9 (.done)))))) (.one 8 (.one 1 (.one 2 (.one 3 (.one 9 (.done))))))))))))))), (4, .one 0 (.one 1 (.one 5 (.alt (.one 2 (.alt (.one 3 (.alt (.one 4 (.one 6 (.one 7 (.one 8 (.one 9 (.one 10 (.one 11 (.one 12 (.one 13 (.one 14 (.done))))))))))) (.one 6 (.one 4 (.one 7 (.one 8 (.one 9 (.one 10 (.one 11 (.one 12 (.one 13 (.one 14 (.done))))))))))))) (.one 6 (.one 3 (.one 4 (.one 7 (.one 8 (.one 9 (.one 10 (.one 11 (.one 12 (.one 13 (.one 14 (.done)))))))))))))) (.one 6 (.alt (.one 2 (.one 3 (.one 4 (.one 7 (.one 8 (.one 9 (.one 10 (.one 11 (.one 12 (.one 13 (.one 14 (.done)))))))))))) (.one 7 (.alt (.one 2 (.one 3 (.one 4 (.one 8 (.one 9 (.one 10 (.one 11 (.one 12 (.one 13 (.one 14 (.done))))))))))) (.one 8 (.one 2 (.one 3 (.one 4 (.one 9 (.one 10 (.one 11 (.one 12 (.one 13 (.one 14 (.done)))))))))))))))))))], ak := [0] }
def Qo8 : Ann := { ord := [(5, [0, 1, 2, 3, 4, 5, 6, 7, 8, 9, 10, 11, 13, 14, 15, 16, 17, 12, 18, 19, 20, 21])], eb := [(5, [18])], lp := [(3, ⟨[0, 3, 4], [.s 3 3], [3], [.s 3 3]⟩)], sh := [.z 3] }
def Qrl : Ann := { jn := [(1, (2, 3, 26))] }
def QrM : Ann := { jn := [(1, (2, 3, 26))] }
def QsI : Ann := { ot := [(5, .one 1 (.alt (.one 0 (.alt (.one 2 (.one 3 (.one 4 (.one 5 (.one 6 (.done)))))) (.one 3 (.alt (.one 2 (.one 4 (.one 5 (.one 6 (.done))))) (.one 4 (.one 2 (.one 5 (.one 6 (.done))))))))) (.one 3 (.alt (.one 0 (.alt (.one 2 (.one 4 (.one 5 (.one 6 (.done))))) (.one 4 (.one 2 (.one 5 (.one 6 (.done))))))) (.one 4 (.one 0 (.one 2 (.one 5 (.one 6 (.done))))))))))], sh := [.z 5, .n] }
def Qoe : Ann := { jn := [(3, (21, 15, 21))], lp := [(6, ⟨[6, 7, 8], [.s 6 3], [6], [.s 6 3]⟩)], sh := [.z 3, .n] }
def Qrz : Ann := { ot := [(1, .one 1 (.alt (.one 0 (.alt (.one 2 (.one 3 (.one 4 (.one 5 (.one 6 (.done)))))) (.one 3 (.alt (.one 2 (.one 4 (.one 5 (.one 6 (.done))))) (.one 4 (.one 2 (.one 5 (.one 6 (.done))))))))) (.one 3 (.alt (.one 0 (.alt (.one 2 (.one 4 (.one 5 (.one 6 (.done))))) (.one 4 (.one 2 (.one 5 (.one 6 (.done))))))) (.one 4 (.one 0 (.one 2 (.one 5 (.one 6 (.done))))))))))], sh := [.z 4, .n] }
def Qsj : Ann := { sh := [.a [0, 8, 3, 3, 5, 4, 5, 4, 0], .n] }
def QsD : Ann := { ot := [(5, .one 1 (.one 4 (.alt (.one 0 (.one 2 (.alt (.one 3 (.one 5 (.one 6 (.one 7 (.one 8 (.one 9 (.done))))))) (.one 5 (.one 3 (.one 6 (.one 7 (.one 8 (.one 9 (.done)))))))))) (.one 2 (.alt (.one 0 (.alt (.one 3 (.one 5 (.one 6 (.one 7 (.one 8 (.one 9 (.done))))))) (.one 5 (.one 3 (.one 6 (.one 7 (.one 8 (.one 9 (.done))))))))) (.alt (.one 3 (.alt (.one 0 (.one 5 (.one 6 (.one 7 (.one 8 (.one 9 (.done))))))) (.one 5 (.one 0 (.one 6 (.one 7 (.one 8 (.one 9 (.done))))))))) (.one 5 (.one 0 (.one 3 (.one 6 (.one 7 (.one 8 (.one 9 (.done))))))))))))))], nr := some [.r 0, .g 29 9 2, .g 29 13 3], ak := [0], av := [(1, [248]), (3, [84]), (4, [75]), (5, [84])], sh := [.a [0, 0, 0, 0, 0, 0, 0, 0, 0, 2, 0, 0, 0, 3]] }
def Qrb : Ann := { nr := some [.r 0, .g 45 9 2, .g 45 13 3], ak := [0], av := [(1, [75, 84]), (4, [84, 171]), (6, [84]), (8, [249]), (10, [75])], sh := [.a [0, 0, 0, 0, 0, 0, 0, 0, 0, 2, 0, 0, 0, 3]] }
def QsH : Ann := {}
def QoE : Ann := { jn := [(4, (43, 10, 43))], lp := [(2, ⟨[0, 3], [], [0], []⟩)], rt := ⟨[2], [], [], []⟩ }
def QrJ : Ann := {}
def QnS : Ann := { lp := [(3, ⟨[0, 1, 2, 7, 8], [], [7], []⟩)] }
def Qo5 : Ann := { jn := [(3, (16, 9, 16)), (6, (42, 28, 42))], lp := [(3, ⟨[0, 1, 5, 6], [.s 5 1], [5], [.s 5 1]⟩)], sh := [.z 1] }
def Qpb : Ann := { lp := [(2, ⟨[0, 1, 5], [], [], []⟩)], rt := ⟨[4], [], [], []⟩ }
def Qpw : Ann := { jn := [(4, (22, 12, 22))], lp := [(2, ⟨[0, 1, 5], [], [], []⟩)], rt := ⟨[4], [], [], []⟩ }
def QpH : Ann := { lp := [(2, ⟨[0, 1, 5], [], [], []⟩)], rt := ⟨[4], [], [], []⟩ }
def Qry : Ann := { jn := [(1, (2, 3, 26))] }
def QrX : Ann := { jn := [(1, (5, 6, 19)), (3, (19, 20, 30))] }
def QrC : Ann := { sh := [.z 2] }
def QnU : Ann := { lp := [(2, ⟨[0, 1, 7, 8], [], [], []⟩)], rt := ⟨[4], [], [], []⟩ }
def Qr3 : Ann := {}
def Qoj : Ann := { lp := [(3, ⟨[3, 6, 7, 8], [], [3], []⟩)] }
def QoD : Ann := { jn := [(3, (34, 16, 34))], lp := [(6, ⟨[3, 6, 7, 8], [.s 3 0, .s 6 3], [6], [.s 6 3]⟩)], sh := [.z 3, .n] }
def QsS : Ann := { ak := [0], av := [(1, [84])] }
def Qod : Ann := { lp := [(3, ⟨[0, 3, 4], [], [3], []⟩)] }
def QnV : Ann := { nr := some [.r 0, .s 20 8], ak := [0], av := [(3, [84]), (5, [248])], lp := [(3, ⟨[0, 3, 4], [.s 0 0, .s 3 8], [0, 3], [.s 0 0, .s 3 8]⟩)], sh := [.z 8] }
def QrH : Ann := { ak := [0], av := [(1, [84, 222]), (2, [84]), (4, [75]), (6, [75]), (8, [75]), (10, [149]), (12, [75])] }
def QpG : Ann := { nr := some [.r 0, .s 39 5], ak := [0], av := [(3, [84]), (5, [84]), (6, [84])], lp := [(3, ⟨[0, 3, 4], [.s 0 0, .s 3 5], [0, 3], [.s 0 0, .s 3 5]⟩)], sh := [.z 5] }
def Qrq : Ann := { av := [(10, [291])], sh := [.a [0, 8, 3, 3, 5, 4, 5, 4, 0], .n] }
def Qpx : Ann := { ot := [(7, .one 0 (.one 1 (.one 2 (.one 3 (.one 4 (.one 6 (.one 7 (.one 12 (.alt (.one 5 (.alt (.one 8 (.alt (.one 9 (.one 10 (.one 11 (.one 13 (.one 14 (.one 15 (.one 16 (.done)))))))) (.one 10 (.alt (.one 9 (.one 11 (.one 13 (.one 14 (.one 15 (.one 16 (.done))))))) (.one 11 (.one 13 (.one 9 (.one 14 (.one 15 (.one 16 (.done))))))))))) (.one 10 (.alt (.one 8 (.alt (.one 9 (.one 11 (.one 13 (.one 14 (.one 15 (.one 16 (.done))))))) (.one 11 (.one 13 (.one 9 (.one 14 (.one 15 (.one 16 (.done))))))))) (.one 11 (.one 13 (.one 8 (.one 9 (.one 14 (.one 15 (.one 16 (.done)))))))))))) (.alt (.one 8 (.alt (.one 5 (.alt (.one 9 (.one 10 (.one 11 (.one 13 (.one 14 (.one 15 (.one 16 (.done)))))))) (.one 10 (.alt (.one 9 (.one 11 (.one 13 (.one 14 (.one 15 (.one 16 (.done))))))) (.one 11 (.one 13 (.one 9 (.one 14 (.one 15 (.one 16 (.done))))))))))) (.one 10 (.alt (.one 5 (.alt (.one 9 (.one 11 (.one 13 (.one 14 (.one 15 (.one 16 (.done))))))) (.one 11 (.one 13 (.one 9 (.one 14 (.one 15 (.one 16 (.done))))))))) (.one 11 (.one 13 (.one 5 (.one 9 (.one 14 (.one 15 (.one 16 (.done)))))))))))) (.one 10 (.alt (.one 5 (.alt (.one 8 (.alt (.one 9 (.one 11 (.one 13 (.one 14 (.one 15 (.one 16 (.done))))))) (.one 11 (.one 13 (.one 9 (.one 14 (.one 15 (.one 16 (.done))))))))) (.one 11 (.one 13 (.one 8 (.one 9 (.one 14 (.one 15 (.one 16 (.done)))))))))) (.alt (.one 8 (.alt (.one 5 (.alt (.one 9 (.one 11 (.one 13 (.one 14 (.one 15 (.one 16 (.done))))))) (.one 11 (.one 13 (.one 9 (.one 14 (.one 15 (.one 16 (.done))))))))) (.one 11 (.one 13 (.one 5 (.one 9 (.one 14 (.one 15 (.one 16 (.done)))))))))) (.one 11 (.one 13 (.alt (.one 5 (.one 8 (.one 9 (.one 14 (.one 15 (.one 16 (.done))))))) (.one 8 (.one 5 (.one 9 (.one 14 (.one 15 (.one 16 (.done)))))))))))))))))))))))], eb := [(7, [47])], av := [(8, [291])], jn := [(5, (44, 30, 44))], lp := [(5, ⟨[1, 3, 4, 8, 10, 12, 13], [.s 4 0, .s 8 0, .s 10 0, .c 2 1 8, .c 2 2 3, .c 2 3 3, .c 2 4 5, .c 2 5 4, .c 2 6 5, .c 2 7 4], [1, 3, 4, 8, 10, 12, 13], [.s 4 0, .s 8 0, .s 10 0, .c 2 1 8, .c 2 2 3, .c 2 3 3, .c 2 4 5, .c 2 5 4, .c 2 6 5, .c 2 7 4]⟩)], sh := [.a [0, 8, 3, 3, 5, 4, 5, 4, 0], .n] }
def QrR : Ann := { av := [(13, [291])], jn := [(3, (34, 19, 34))], sh := [.a [0, 8, 3, 3, 5, 4, 5, 4, 0], .n] }
def Qr2 : Ann := { ot := [(9, .one 0 (.one 1 (.one 2 (.one 3 (.one 4 (.one 5 (.one 6 (.one 7 (.one 8 (.one 9 (.one 10 (.one 11 (.one 12 (.one 13 (.one 14 (.one 15 (.one 16 (.one 17 (.alt (.one 18 (.alt (.one 19 (.one 20 (.one 21 (.one 22 (.one 23 (.one 24 (.one 25 (.done)))))))) (.one 23 (.one 19 (.one 20 (.one 21 (.one 22 (.one 24 (.one 25 (.done)))))))))) (.one 23 (.one 18 (.one 19 (.one 20 (.one 21 (.one 22 (.one 24 (.one 25 (.done))))))))))))))))))))))))))))], av := [(9, [296]), (10, [291])], jn := [(3, (33, 23, 33))], sh := [.a [0, 8, 3, 3, 5, 4, 5, 4, 0], .n] }
def Qru : Ann := { ot := [(9, .one 0 (.one 1 (.one 2 (.one 3 (.one 4 (.one 5 (.one 6 (.one 7 (.one 8 (.alt (.one 9 (.one 10 (.one 11 (.one 12 (.one 13 (.one 14 (.one 15 (.done)))))))) (.one 13 (.one 9 (.one 10 (.one 11 (.one 12 (.one 14 (.one 15 (.done))))))))))))))))))], av := [(6, [296]), (9, [296]), (10, [291]), (11, [291])], jn := [(3, (50, 27, 50))], sh := [.a [0, 8, 3, 3, 5, 4, 5, 4, 0], .n] }
def Qrc : Ann := { ot := [(6, .one 0 (.one 1 (.one 2 (.one 3 (.one 4 (.one 5 (.one 6 (.one 7 (.alt (.one 8 (.one 9 (.one 10 (.one 11 (.one 12 (.one 13 (.one 14 (.done)))))))) (.one 12 (.one 8 (.one 9 (.one 10 (.one 11 (.one 13 (.one 14 (.done)))))))))))))))))], av := [(7, [291]), (11, [291])], jn := [(2, (21, 15, 21))], sh := [.a [0, 8, 3, 3, 5, 4, 5, 4, 0], .n] }
def QsN : Ann := { av := [(5, [291])], jn := [(2, (17, 9, 17))], sh := [.a [0, 8, 3, 3, 5, 4, 5, 4, 0], .n] }
def QrZ : Ann := { ak := [0], av := [(1, [84, 222])] }
def Qpe : Ann := { nr := some [.r 0, .s 57 3], ak := [0], av := [(3, [84]), (5, [84]), (9, [84]), (10, [84]), (12, [75]), (14, [75])], lp := [(3, ⟨[0, 3, 4], [.s 0 0, .s 3 3], [0, 3], [.s 0 0, .s 3 3]⟩)], sh := [.z 3] }
def Qop : Ann := { lp := [(3, ⟨[0, 3, 4], [], [3], []⟩)] }
def Qn7 : Ann := { ot := [(6, .one 1 (.one 2 (.one 3 (.one 5 (.one 8 (.one 9 (.one 10 (.alt (.one 0 (.alt (.one 4 (.one 6 (.one 7 (.one 11 (.one 12 (.done)))))) (.one 6 (.one 4 (.one 7 (.one 11 (.one 12 (.done)))))))) (.one 6 (.one 0 (.one 4 (.one 7 (.one 11 (.one 12 (.done)))))))))))))))], jn := [(2, (17, 6, 17)), (4, (31, 20, 31))], lp := [(2, ⟨[0, 1, 5], [], [0, 1, 5], []⟩)], sh := [.z 1] }
def Qrv : Ann := {}
def QoB : Ann := { lp := [(2, ⟨[0, 1, 5], [], [], []⟩)], rt := ⟨[4], [], [], []⟩ }
def QrT : Ann := {}
def QoL : Ann := { jn := [(5, (44, 13, 44))], lp := [(3, ⟨[0, 1, 5, 6], [], [0, 5], []⟩)] }
def QoZ : Ann := { ot := [(9, .one 1 (.one 2 (.one 3 (.one 8 (.one 9 (.one 10 (.alt (.one 0 (.alt (.one 4 (.one 5 (.one 6 (.one 7 (.one 11 (.one 12 (.done))))))) (.one 5 (.alt (.one 4 (.one 6 (.one 7 (.one 11 (.one 12 (.done)))))) (.one 6 (.one 4 (.one 7 (.one 11 (.one 12 (.done)))))))))) (.one 5 (.alt (.one 0 (.alt (.one 4 (.one 6 (.one 7 (.one 11 (.one 12 (.done)))))) (.one 6 (.one 4 (.one 7 (.one 11 (.one 12 (.done)))))))) (.one 6 (.one 0 (.one 4 (.one 7 (.one 11 (.one 12 (.done))))))))))))))))], jn := [(6, (7, 19, 40)), (10, (67, 62, 67))], lp := [(4, ⟨[0, 3, 6, 7, 8], [.s 3 0], [0, 3, 6, 7], [.s 3 0]⟩)], sh := [.z 5, .n] }
def Qrg : Ann := { jn := [(3, (24, 18, 24)), (6, (11, 31, 49)), (8, (60, 54, 60))], sh := [.z 5, .n] }
def Qpv : Ann := { ot := [(4, .one 1 (.one 2 (.one 3 (.one 8 (.one 9 (.one 10 (.alt (.one 0 (.alt (.one 4 (.one 5 (.one 6 (.one 7 (.one 11 (.one 12 (.done))))))) (.one 5 (.alt (.one 4 (.one 6 (.one 7 (.one 11 (.one 12 (.done)))))) (.one 6 (.one 4 (.one 7 (.one 11 (.one 12 (.done)))))))))) (.one 5 (.alt (.one 0 (.alt (.one 4 (.one 6 (.one 7 (.one 11 (.one 12 (.done)))))) (.one 6 (.one 4 (.one 7 (.one 11 (.one 12 (.done)))))))) (.one 6 (.one 0 (.one 4 (.one 7 (.one 11 (.one 12 (.done))))))))))))))))], jn := [(2, (23, 8, 23))], lp := [(2, ⟨[0, 3, 6], [.s 3 0], [0, 3, 6], [.s 3 0]⟩)], sh := [.z 8, .n] }
def Qpy : Ann := { ot := [(4, .one 0 (.one 1 (.one 2 (.one 4 (.one 8 (.one 9 (.one 10 (.alt (.one 3 (.one 5 (.one 6 (.one 7 (.one 11 (.one 12 (.one 13 (.done)))))))) (.one 5 (.one 3 (.one 6 (.one 7 (.one 11 (.one 12 (.one 13 (.done))))))))))))))))], jn := [(2, (21, 8, 21))], lp := [(2, ⟨[0, 3, 6], [.s 3 0], [0, 3, 6], [.s 3 0]⟩)], sh := [.z 3, .n] }
def QsG : Ann := { jn := [(1, (19, 8, 19))], sh := [.a [0, 8, 3, 3, 5, 4, 5, 4, 0], .n] }
def QnX : Ann := { lp := [(2, ⟨[0, 1, 5], [], [], []⟩)], rt := ⟨[4], [], [], []⟩ }
def Qsa : Ann := {}
def QoX : Ann := { jn := [(5, (44, 13, 44))], lp := [(3, ⟨[0, 1, 5, 6], [], [0, 5], []⟩)] }
def Qsi : Ann := { sh := [.a [0, 8, 3, 3, 5, 4, 5, 4, 0], .n] }
def Qr5 : Ann := { sh := [.a [0, 8, 3, 3, 5, 4, 5, 4, 0], .n] }
def QsF : Ann := { jn := [(1, (12, 5, 12))] }
def Qrf : Ann := { jn := [(1, (12, 5, 12))] }
def Qou : Ann := { jn := [(6, (36, 20, 36)), (10, (42, 43, 53))], lp := [(4, ⟨[1, 2, 3, 7], [.s 3 0], [2, 3], [.s 3 0]⟩)], rt := ⟨[6], [], [], []⟩ }
def QrW : Ann := { sh := [.z 2] }
def QsU : Ann := {}
def Qq7 : Ann := {}
def Qsu : Ann := {}
def QrB : Ann := {}
def Qoc : Ann := { lp := [(2, ⟨[0, 1, 5], [], [], []⟩)], rt := ⟨[4], [], [], []⟩ }
def Ql8 : Ann := { jn := [(4, (26, 11, 26))], lp := [(2, ⟨[0, 3], [], [0], []⟩), (7, ⟨[0, 3, 4], [], [0, 3], []⟩)], rt := ⟨[2], [], [], []⟩ }
def Qmh : Ann := { ot := [(8, .one 1 (.one 2 (.one 3 (.one 5 (.one 6 (.one 11 (.one 12 (.one 13 (.alt (.one 0 (.alt (.one 4 (.one 7 (.one 8 (.one 9 (.one 10 (.one 14 (.one 15 (.done)))))))) (.one 7 (.alt (.one 4 (.one 8 (.one 9 (.one 10 (.one 14 (.one 15 (.done))))))) (.one 8 (.alt (.one 4 (.one 9 (.one 10 (.one 14 (.one 15 (.done)))))) (.one 9 (.one 4 (.one 10 (.one 14 (.one 15 (.done)))))))))))) (.one 7 (.alt (.one 0 (.alt (.one 4 (.one 8 (.one 9 (.one 10 (.one 14 (.one 15 (.done))))))) (.one 8 (.alt (.one 4 (.one 9 (.one 10 (.one 14 (.one 15 (.done)))))) (.one 9 (.one 4 (.one 10 (.one 14 (.one 15 (.done)))))))))) (.one 8 (.alt (.one 0 (.alt (.one 4 (.one 9 (.one 10 (.one 14 (.one 15 (.done)))))) (.one 9 (.one 4 (.one 10 (.one 14 (.one 15 (.done)))))))) (.one 9 (.one 0 (.one 4 (.one 10 (.one 14 (.one 15 (.done))))))))))))))))))))], fz := [(8, [3])], jn := [(6, (30, 15, 30))], lp := [(3, ⟨[0, 3, 4], [.s 3 3], [3], [.s 3 3]⟩), (6, ⟨[0, 3, 4, 5], [.s 3 3], [0, 3, 4, 5], [.s 3 3]⟩)], sh := [.z 3] }
def Qsw : Ann := { jn := [(1, (4, 5, 13))] }
def Qlz : Ann := { jn := [(9, (43, 31, 43))], lp := [(4, ⟨[0, 1, 5, 6, 7], [.s 5 1], [0, 1, 5, 6], [.s 5 1]⟩), (13, ⟨[0, 1, 5, 6, 8, 9], [.s 5 1], [5, 8], [.s 5 1]⟩), (18, ⟨[5, 8, 10], [.s 5 1], [5], [.s 5 1]⟩)], rt := ⟨[4], [.s 4 1], [], []⟩, sh := [.z 1] }
def Qrs : Ann := { jn := [(1, (19, 7, 19))] }
def QrL : Ann := {}
def Qq5 : Ann := { jn := [(5, (10, 11, 17))] }
noncomputable def T : Tld := { P := Tryz.prog, ann := [(5, An5), (8, An8), (11, Qx3), (18, QwV), (23, Qv0), (28, Qzb), (29, Qt3), (30, Qwv), (31, Qvs), (32, QuL), (33, Qvq), (34, QvL), (35, QyZ), (36, Qvf), (37, Qxn), (38, QvD), (39, Qu9), (40, Qub), (52, Qzg), (56, Qzo), (57, Qzf), (59, Qyy), (60, Qvv), (61, QtP), (62, Quy), (63, Qv8), (64, Qp4), (65, Qvt), (66, Qpr), (67, Qw9), (68, Qyj), (69, QyA), (74, Qt0), (75, QyN), (76, Qyl), (78, QuK), (80, QyP), (84, Qxd), (86, Qyr), (94, QxL), (95, Qxy), (96, QyD), (97, Qw4), (98, QyR), (99, Qzw), (100, Qsk), (101, QoG), (102, Qr0), (103, Qok), (113, Qq8), (114, Qn8), (115, Qmp), (116, Qmx), (117, QoI), (118, Qo6), (119, Qk0), (120, Qoo), (133, QrI), (134, Qsy), (135, Qot), (136, QsW), (137, Qre), (138, Qrp), (139, Qr1), (140, QoV), (141, QsE), (142, Qpf), (149, Qsm), (152, QrK), (153, Qsd), (154, Qrj), (158, Qsg), (161, Qo8), (165, Qrl), (166, QrM), (167, QsI), (168, Qoe), (169, Qrz), (170, Qsj), (171, QsD), (172, Qrb), (176, QsH), (182, QoE), (183, QrJ), (184, QnS), (185, Qo5), (186, Qpb), (187, Qpw), (188, QpH), (189, Qry), (190, QrX), (191, QrC), (215, QnU), (216, Qr3), (217, Qoj), (221, QoD), (222, QsS), (234, Qod), (235, QnV), (236, QrH), (237, QpG), (241, Qrq), (242, Qpx), (243, QrR), (244, Qr2), (245, Qru), (246, Qrc), (247, QsN), (248, QrZ), (249, Qpe), (258, Qop), (259, Qn7), (260, Qrv), (261, QoB), (276, QrT), (278, QoL), (285, QoZ), (286, Qrg), (289, Qpv), (290, Qpy), (291, QsG), (292, QnX), (293, Qsa), (294, QoX), (295, Qsi), (296, Qr5), (297, QsF), (298, Qrf), (299, Qou), (300, QrW), (301, QsU), (305, Qq7), (322, Qsu), (325, QrB), (326, Qoc), (327, Ql8), (328, Qmh), (329, Qsw), (330, Qlz), (338, Qrs), (339, QrL), (347, Qq5)], xt := fun _ _ => none, st := fun g => Nat.beq g 82, qt := fun _ => false, pz := [(86, [.a [0, 8, 3, 3, 5, 4, 5, 4, 0]])], vt := fun g => Nat.beq g 291 || Nat.beq g 296, mt := fun _ _ _ => none }
theorem TP : T.P = Tryz.prog := _root_.id rfl
theorem TZ : T.pz = [(86, [.a [0, 8, 3, 3, 5, 4, 5, 4, 0]])] := _root_.id rfl
theorem QNc : decide ((0 : Int) ≤ 33) = true := _root_.id rfl
theorem QNE : decide ((0 : Int) ≤ 47) = true := _root_.id rfl
def eY := aI evT <| aI QKU <| aI @QOZ <| aI @QkW <| @VB
def eZ := aI evB <| aI evT <| aI tys <| aI QKU <| aI TP <| aI TZ <| aI (@QKg T) <| aI (@QGd T) <| aI (@QFH T) <| aI QNc <| aI QNE <| aI @VB <| @QIZ T
theorem QLL : cI = Vm := _root_.id rfl
theorem QEq (xs : List Int) : QbH (xs.map Vm) = some xs := Qp9 xs
theorem QG2 : T.st 82 = true := by kernel_rfl
theorem QJ6 : T.st 74 = false := by kernel_rfl
theorem QE4 : T.qt 74 = false := by kernel_rfl
theorem QKD : T.wt 74 = true := by kernel_rfl
theorem QE5 : T.vt 74 = false := by kernel_rfl
theorem QGX : T.st 75 = false := by kernel_rfl
theorem QEW : T.qt 75 = false := by kernel_rfl
theorem QES : T.wt 75 = true := by kernel_rfl
theorem QKO : T.vt 75 = false := by kernel_rfl
theorem QKh : T.st 76 = false := by kernel_rfl
theorem QKZ : T.qt 76 = false := by kernel_rfl
theorem QJb : T.wt 76 = true := by kernel_rfl
theorem QIR : T.vt 76 = false := by kernel_rfl
theorem QJ8 : T.st 78 = false := by kernel_rfl
theorem QI3 : T.qt 78 = false := by kernel_rfl
theorem QGh : T.wt 78 = true := by kernel_rfl
theorem QEZ : T.vt 78 = false := by kernel_rfl
theorem QEF : T.st 84 = false := by kernel_rfl
theorem QHk : T.qt 84 = false := by kernel_rfl
theorem QI7 : T.wt 84 = true := by kernel_rfl
theorem QGS : T.vt 84 = false := by kernel_rfl
theorem QHY : T.st 99 = false := by kernel_rfl
theorem QJd : T.qt 99 = false := by kernel_rfl
theorem QKs : T.wt 99 = true := by kernel_rfl
theorem QIj : T.vt 99 = false := by kernel_rfl
theorem QBW : T.st 102 = false := by kernel_rfl
theorem QDj : T.qt 102 = false := by kernel_rfl
theorem QDk : T.wt 102 = true := by kernel_rfl
theorem QCQ : T.vt 102 = false := by kernel_rfl
theorem QBm : T.st 103 = false := by kernel_rfl
theorem QDs : T.qt 103 = false := by kernel_rfl
theorem QC5 : T.wt 103 = true := by kernel_rfl
theorem QDu : T.vt 103 = false := by kernel_rfl
theorem QDH : T.st 149 = false := by kernel_rfl
theorem QCi : T.qt 149 = false := by kernel_rfl
theorem QBr : T.wt 149 = true := by kernel_rfl
theorem QBK : T.vt 149 = false := by kernel_rfl
theorem QBQ : T.st 153 = false := by kernel_rfl
theorem QDY : T.qt 153 = false := by kernel_rfl
theorem QBd : T.wt 153 = true := by kernel_rfl
theorem QCj : T.vt 153 = false := by kernel_rfl
theorem QCG : T.st 154 = false := by kernel_rfl
theorem QCI : T.qt 154 = false := by kernel_rfl
theorem QEi : T.wt 154 = true := by kernel_rfl
theorem QBL : T.vt 154 = false := by kernel_rfl
theorem QC2 : T.st 158 = false := by kernel_rfl
theorem QEf : T.qt 158 = false := by kernel_rfl
theorem QA4 : T.wt 158 = true := by kernel_rfl
theorem QBt : T.vt 158 = false := by kernel_rfl
theorem QDJ : T.st 171 = false := by kernel_rfl
theorem QBg : T.qt 171 = false := by kernel_rfl
theorem QCv : T.wt 171 = true := by kernel_rfl
theorem QB2 : T.vt 171 = false := by kernel_rfl
theorem QD3 : T.st 172 = false := by kernel_rfl
theorem QDW : T.qt 172 = false := by kernel_rfl
theorem QCS : T.wt 172 = true := by kernel_rfl
theorem QCa : T.vt 172 = false := by kernel_rfl
theorem QBD : T.st 222 = false := by kernel_rfl
theorem QCc : T.qt 222 = false := by kernel_rfl
theorem QBw : T.wt 222 = true := by kernel_rfl
theorem QBf : T.vt 222 = false := by kernel_rfl
theorem QCe : T.st 235 = false := by kernel_rfl
theorem QCf : T.qt 235 = false := by kernel_rfl
theorem QA5 : T.wt 235 = true := by kernel_rfl
theorem QDo : T.vt 235 = false := by kernel_rfl
theorem QCP : T.st 236 = false := by kernel_rfl
theorem QBZ : T.qt 236 = false := by kernel_rfl
theorem QDw : T.wt 236 = true := by kernel_rfl
theorem QEg : T.vt 236 = false := by kernel_rfl
theorem QDv : T.st 237 = false := by kernel_rfl
theorem QEo : T.qt 237 = false := by kernel_rfl
theorem QBU : T.wt 237 = true := by kernel_rfl
theorem QAZ : T.vt 237 = false := by kernel_rfl
theorem QB7 : T.st 248 = false := by kernel_rfl
theorem QAQ : T.qt 248 = false := by kernel_rfl
theorem QC1 : T.wt 248 = true := by kernel_rfl
theorem QCY : T.vt 248 = false := by kernel_rfl
theorem QD0 : T.st 249 = false := by kernel_rfl
theorem QAR : T.qt 249 = false := by kernel_rfl
theorem QEk : T.wt 249 = true := by kernel_rfl
theorem QBH : T.vt 249 = false := by kernel_rfl
theorem QBX : T.st 291 = false := by kernel_rfl
theorem QCA : T.qt 291 = false := by kernel_rfl
theorem QCR : T.wt 291 = false := by kernel_rfl
theorem QAP : T.vt 291 = true := by kernel_rfl
theorem QDt : T.st 296 = false := by kernel_rfl
theorem QDx : T.qt 296 = false := by kernel_rfl
theorem QBe : T.wt 296 = false := by kernel_rfl
theorem QBT : T.vt 296 = true := by kernel_rfl
def srt := aI @QLL <| aI @QEq <| aI @QIk <| aI @QF6 <| aI @QGO <| aI @QKd <| aI @QG2 <| aI @QJ6 <| aI @QE4 <| aI @QKD <| aI @QE5 <| aI @QGX <| aI @QEW <| aI @QES <| aI @QKO <| aI @QKh <| aI @QKZ <| aI @QJb <| aI @QIR <| aI @QJ8 <| aI @QI3 <| aI @QGh <| aI @QEZ <| aI @QEF <| aI @QHk <| aI @QI7 <| aI @QGS <| aI @QHY <| aI @QJd <| aI @QKs <| aI @QIj <| aI @QBW <| aI @QDj <| aI @QDk <| aI @QCQ <| aI @QBm <| aI @QDs <| aI @QC5 <| aI @QDu <| aI @QDH <| aI @QCi <| aI @QBr <| aI @QBK <| aI @QBQ <| aI @QDY <| aI @QBd <| aI @QCj <| aI @QCG <| aI @QCI <| aI @QEi <| aI @QBL <| aI @QC2 <| aI @QEf <| aI @QA4 <| aI @QBt <| aI @QDJ <| aI @QBg <| aI @QCv <| aI @QB2 <| aI @QD3 <| aI @QDW <| aI @QCS <| aI @QCa <| aI @QBD <| aI @QCc <| aI @QBw <| aI @QBf <| aI @QCe <| aI @QCf <| aI @QA5 <| aI @QDo <| aI @QCP <| aI @QBZ <| aI @QDw <| aI @QEg <| aI @QDv <| aI @QEo <| aI @QBU <| aI @QAZ <| aI @QB7 <| aI @QAQ <| aI @QC1 <| aI @QCY <| aI @QD0 <| aI @QAR <| aI @QEk <| aI @QBH <| aI @QBX <| aI @QCA <| aI @QCR <| aI @QAP <| aI @QDt <| aI @QDx <| aI @QBe @QBT
theorem Aa5 : T.at 5 = some An5 := by kernel_rfl
theorem Aa8 : T.at 8 = some An8 := by kernel_rfl
theorem QPC : T.at 11 = some Qx3 := by kernel_rfl
theorem QGo : T.at 18 = some QwV := by kernel_rfl
theorem QIW : T.at 23 = some Qv0 := by kernel_rfl
theorem QOI : T.at 28 = some Qzb := by kernel_rfl
theorem QKM : T.at 29 = some Qt3 := by kernel_rfl
theorem QHc : T.at 30 = some Qwv := by kernel_rfl
theorem QGK : T.at 31 = some Qvs := by kernel_rfl
theorem QJN : T.at 32 = some QuL := by kernel_rfl
theorem QIS : T.at 33 = some Qvq := by kernel_rfl
theorem QH5 : T.at 34 = some QvL := by kernel_rfl
theorem QMt : T.at 35 = some QyZ := by kernel_rfl
theorem QFX : T.at 36 = some Qvf := by kernel_rfl
theorem QMw : T.at 37 = some Qxn := by kernel_rfl
theorem QJI : T.at 38 = some QvD := by kernel_rfl
theorem QLD : T.at 39 = some Qu9 := by kernel_rfl
theorem QLp : T.at 40 = some Qub := by kernel_rfl
theorem QM7 : T.at 52 = some Qzg := by kernel_rfl
theorem QNS : T.at 56 = some Qzo := by kernel_rfl
theorem QOr : T.at 57 = some Qzf := by kernel_rfl
theorem QLU : T.at 59 = some Qyy := by kernel_rfl
theorem QE3 : T.at 60 = some Qvv := by kernel_rfl
theorem QDq : T.at 61 = some QtP := by kernel_rfl
theorem QKB : T.at 62 = some Quy := by kernel_rfl
theorem QHv : T.at 63 = some Qv8 := by kernel_rfl
theorem Qyh : T.at 64 = some Qp4 := by kernel_rfl
theorem QHS : T.at 65 = some Qvt := by kernel_rfl
theorem QvE : T.at 66 = some Qpr := by kernel_rfl
theorem QJV : T.at 67 = some Qw9 := by kernel_rfl
theorem QNe : T.at 68 = some Qyj := by kernel_rfl
theorem QNU : T.at 69 = some QyA := by kernel_rfl
theorem QI8 : T.at 74 = some Qt0 := by kernel_rfl
theorem QPf : T.at 75 = some QyN := by kernel_rfl
theorem QO5 : T.at 76 = some Qyl := by kernel_rfl
theorem QHg : T.at 78 = some QuK := by kernel_rfl
theorem QPG : T.at 80 = some QyP := by kernel_rfl
theorem QPE : T.at 84 = some Qxd := by kernel_rfl
theorem QNW : T.at 86 = some Qyr := by kernel_rfl
theorem QOc : T.at 94 = some QxL := by kernel_rfl
theorem QMy : T.at 95 = some Qxy := by kernel_rfl
theorem QNO : T.at 96 = some QyD := by kernel_rfl
theorem QI6 : T.at 97 = some Qw4 := by kernel_rfl
theorem QOG : T.at 98 = some QyR := by kernel_rfl
theorem QNB : T.at 99 = some Qzw := by kernel_rfl
theorem QKn : T.at 100 = some Qsk := by kernel_rfl
theorem QAe : T.at 101 = some QoG := by kernel_rfl
theorem QJc : T.at 102 = some Qr0 := by kernel_rfl
theorem QzH : T.at 103 = some Qok := by kernel_rfl
theorem QIA : T.at 113 = some Qq8 := by kernel_rfl
theorem QAs : T.at 114 = some Qn8 := by kernel_rfl
theorem Qt2 : T.at 115 = some Qmp := by kernel_rfl
theorem Qu3 : T.at 116 = some Qmx := by kernel_rfl
theorem QzX : T.at 117 = some QoI := by kernel_rfl
theorem QzS : T.at 118 = some Qo6 := by kernel_rfl
theorem QsQ : T.at 119 = some Qk0 := by kernel_rfl
theorem Qz3 : T.at 120 = some Qoo := by kernel_rfl
theorem QJl : T.at 133 = some QrI := by kernel_rfl
theorem QFi : T.at 134 = some Qsy := by kernel_rfl
theorem QzM : T.at 135 = some Qot := by kernel_rfl
theorem QIa : T.at 136 = some QsW := by kernel_rfl
theorem QGv : T.at 137 = some Qre := by kernel_rfl
theorem QGF : T.at 138 = some Qrp := by kernel_rfl
theorem QJS : T.at 139 = some Qr1 := by kernel_rfl
theorem QzO : T.at 140 = some QoV := by kernel_rfl
theorem QJL : T.at 141 = some QsE := by kernel_rfl
theorem QAd : T.at 142 = some Qpf := by kernel_rfl
theorem QGs : T.at 149 = some Qsm := by kernel_rfl
theorem QJj : T.at 152 = some QrK := by kernel_rfl
theorem QGM : T.at 153 = some Qsd := by kernel_rfl
theorem QIB : T.at 154 = some Qrj := by kernel_rfl
theorem QIw : T.at 158 = some Qsg := by kernel_rfl
theorem QAv : T.at 161 = some Qo8 := by kernel_rfl
theorem QHl : T.at 165 = some Qrl := by kernel_rfl
theorem QEG : T.at 166 = some QrM := by kernel_rfl
theorem QGg : T.at 167 = some QsI := by kernel_rfl
theorem QAm : T.at 168 = some Qoe := by kernel_rfl
theorem QFr : T.at 169 = some Qrz := by kernel_rfl
theorem QEX : T.at 170 = some Qsj := by kernel_rfl
theorem QGl : T.at 171 = some QsD := by kernel_rfl
theorem QJn : T.at 172 = some Qrb := by kernel_rfl
theorem QII : T.at 176 = some QsH := by kernel_rfl
theorem Qz6 : T.at 182 = some QoE := by kernel_rfl
theorem QFO : T.at 183 = some QrJ := by kernel_rfl
theorem QAa : T.at 184 = some QnS := by kernel_rfl
theorem QAr : T.at 185 = some Qo5 := by kernel_rfl
theorem Qz5 : T.at 186 = some Qpb := by kernel_rfl
theorem QAD : T.at 187 = some Qpw := by kernel_rfl
theorem QAF : T.at 188 = some QpH := by kernel_rfl
theorem QFE : T.at 189 = some Qry := by kernel_rfl
theorem QJ4 : T.at 190 = some QrX := by kernel_rfl
theorem QGL : T.at 191 = some QrC := by kernel_rfl
theorem QzW : T.at 215 = some QnU := by kernel_rfl
theorem QGy : T.at 216 = some Qr3 := by kernel_rfl
theorem Qz9 : T.at 217 = some Qoj := by kernel_rfl
theorem QAj : T.at 221 = some QoD := by kernel_rfl
theorem QHQ : T.at 222 = some QsS := by kernel_rfl
theorem QAh : T.at 234 = some Qod := by kernel_rfl
theorem Qz0 : T.at 235 = some QnV := by kernel_rfl
theorem QIm : T.at 236 = some QrH := by kernel_rfl
theorem QAE : T.at 237 = some QpG := by kernel_rfl
theorem QGN : T.at 241 = some Qrq := by kernel_rfl
theorem QAi : T.at 242 = some Qpx := by kernel_rfl
theorem QJo : T.at 243 = some QrR := by kernel_rfl
theorem QEz : T.at 244 = some Qr2 := by kernel_rfl
theorem QJw : T.at 245 = some Qru := by kernel_rfl
theorem QKS : T.at 246 = some Qrc := by kernel_rfl
theorem QIh : T.at 247 = some QsN := by kernel_rfl
theorem QE6 : T.at 248 = some QrZ := by kernel_rfl
theorem QzT : T.at 249 = some Qpe := by kernel_rfl
theorem QAo : T.at 258 = some Qop := by kernel_rfl
theorem Qz8 : T.at 259 = some Qn7 := by kernel_rfl
theorem QI9 : T.at 260 = some Qrv := by kernel_rfl
theorem QAg : T.at 261 = some QoB := by kernel_rfl
theorem QId : T.at 276 = some QrT := by kernel_rfl
theorem QAL : T.at 278 = some QoL := by kernel_rfl
theorem QzY : T.at 285 = some QoZ := by kernel_rfl
theorem QFD : T.at 286 = some Qrg := by kernel_rfl
theorem QzK : T.at 289 = some Qpv := by kernel_rfl
theorem QAc : T.at 290 = some Qpy := by kernel_rfl
theorem QG6 : T.at 291 = some QsG := by kernel_rfl
theorem QAG : T.at 292 = some QnX := by kernel_rfl
theorem QK1 : T.at 293 = some Qsa := by kernel_rfl
theorem QAy : T.at 294 = some QoX := by kernel_rfl
theorem QJf : T.at 295 = some Qsi := by kernel_rfl
theorem QLh : T.at 296 = some Qr5 := by kernel_rfl
theorem QGe : T.at 297 = some QsF := by kernel_rfl
theorem QGY : T.at 298 = some Qrf := by kernel_rfl
theorem QAK : T.at 299 = some Qou := by kernel_rfl
theorem QFz : T.at 300 = some QrW := by kernel_rfl
theorem QJA : T.at 301 = some QsU := by kernel_rfl
theorem QFs : T.at 305 = some Qq7 := by kernel_rfl
theorem QJG : T.at 322 = some Qsu := by kernel_rfl
theorem QJY : T.at 325 = some QrB := by kernel_rfl
theorem QzG : T.at 326 = some Qoc := by kernel_rfl
theorem QvQ : T.at 327 = some Ql8 := by kernel_rfl
theorem Qvr : T.at 328 = some Qmh := by kernel_rfl
theorem QEY : T.at 329 = some Qsw := by kernel_rfl
theorem QsO : T.at 330 = some Qlz := by kernel_rfl
theorem QK5 : T.at 338 = some Qrs := by kernel_rfl
theorem QKL : T.at 339 = some QrL := by kernel_rfl
theorem QLA : T.at 347 = some Qq5 := by kernel_rfl
end Go.Proofs.YtkbilciipmijjaaGreat
