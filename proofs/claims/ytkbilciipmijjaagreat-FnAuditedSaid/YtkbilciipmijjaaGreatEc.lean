import Derived.Test.YtkbilciipmijjaaGreatEvB
import Derived.Test.YtkbilciipmijjaaGreatFn
import Derived.Test.YtkbilciipmijjaaGreatProg
import Derived.KernelRfl
namespace Go.Proofs.YtkbilciipmijjaaGreat
open Go Go.Proofs Go.Proofs.YtkbilciipmijjaaGreat.Am
set_option maxHeartbeats 4000000
set_option linter.unusedVariables false
set_option linter.unusedSimpArgs false
set_option linter.defProp false
set_option maxRecDepth 100000
def QU (x : Int) : List AV := [.i .i64 x]
theorem Qko (x : Int) : QU x = [.i .i64 x] := _root_.id rfl
instance (x : Int) : EncR QU [.i .i64 x] x := ⟨rfl⟩
theorem QCf (xs : List Int) : Qt (xs.map QU) = xs.map QU := Qay (fun x => by simp only [Qko, Vi, V9]) xs
theorem QCy (xs : List Int) : QX (xs.map QU) = true := J0 (fun x => by simp only [Qko, XP, AV.clean, Bool.and_self]) xs
theorem QCq {R : List (List AV)} {xs : List Int} (i : Int) [h : EncL QU R xs] : inb R i = inb xs i := by rw [h.eq, Qmq]
theorem QBO {R : List (List AV)} {xs : List Int} (i : Int) [h : EncL QU R xs] (hi : inb xs i = true) : Qy R i.toNat = QU (gt xs i) := by rw [h.eq, Qm0 xs i hi]
theorem QDV (xs : List Int) : QaN (xs.map QU) = true := Qlx (fun x => by rw [Qko]; rfl) xs
def QcC (x : Int) : List AV := [.i .u8 x]
theorem Qnf (x : Int) : QcC x = [.i .u8 x] := _root_.id rfl
instance (x : Int) : EncR QcC [.i .u8 x] x := ⟨rfl⟩
theorem QAX (xs : List Int) : Qt (xs.map QcC) = xs.map QcC := Qay (fun x => by simp only [Qnf, Vi, V9]) xs
theorem QAO (xs : List Int) : QX (xs.map QcC) = true := J0 (fun x => by simp only [Qnf, XP, AV.clean, Bool.and_self]) xs
theorem QFq {R : List (List AV)} {xs : List Int} (i : Int) [h : EncL QcC R xs] : inb R i = inb xs i := by rw [h.eq, Qmq]
theorem QEL {R : List (List AV)} {xs : List Int} (i : Int) [h : EncL QcC R xs] (hi : inb xs i = true) : Qy R i.toNat = QcC (gt xs i) := by rw [h.eq, Qm0 xs i hi]
theorem QJU (xs : List Int) : QaN (xs.map QcC) = true := Qlx (fun x => by rw [Qnf]; rfl) xs
def c_b (x : Bool) : List AV := [.b x]
theorem QrA (x : Bool) : c_b x = [.b x] := _root_.id rfl
instance (x : Bool) : EncR c_b [.b x] x := ⟨rfl⟩
theorem QMQ (xs : List Bool) : Qt (xs.map c_b) = xs.map c_b := Qay (fun x => by simp only [QrA, Vi, V9]) xs
theorem QLH (xs : List Bool) : QX (xs.map c_b) = true := J0 (fun x => by simp only [QrA, XP, AV.clean, Bool.and_self]) xs
theorem QPM {R : List (List AV)} {xs : List Bool} (i : Int) [h : EncL c_b R xs] : inb R i = inb xs i := by rw [h.eq, Qmq]
theorem QOf {R : List (List AV)} {xs : List Bool} (i : Int) [h : EncL c_b R xs] (hi : inb xs i = true) : Qy R i.toNat = c_b (gt xs i) := by rw [h.eq, Qm0 xs i hi]
theorem QNY (xs : List Bool) : QaN (xs.map c_b) = true := Qlx (fun x => by rw [QrA]; rfl) xs
def c_s (x : List UInt8) : List AV := [.s x]
theorem Qst (x : List UInt8) : c_s x = [.s x] := _root_.id rfl
instance (x : List UInt8) : EncR c_s [.s x] x := ⟨rfl⟩
theorem QMW (xs : List (List UInt8)) : Qt (xs.map c_s) = xs.map c_s := Qay (fun x => by simp only [Qst, Vi, V9]) xs
theorem QMG (xs : List (List UInt8)) : QX (xs.map c_s) = true := J0 (fun x => by simp only [Qst, XP, AV.clean, Bool.and_self]) xs
theorem QNB {R : List (List AV)} {xs : List (List UInt8)} (i : Int) [h : EncL c_s R xs] : inb R i = inb xs i := by rw [h.eq, Qmq]
theorem QNd {R : List (List AV)} {xs : List (List UInt8)} (i : Int) [h : EncL c_s R xs] (hi : inb xs i = true) : Qy R i.toNat = c_s (gt xs i) := by rw [h.eq, Qm0 xs i hi]
theorem QOS (xs : List (List UInt8)) : QaN (xs.map c_s) = true := Qlx (fun x => by rw [Qst]; rfl) xs
def VP (x : l1Cur) : List AV := [.imm 1 (x.b.map QcC), .i .i64 x.i, .i .i64 x.h]
theorem QpW (x : l1Cur) : VP x = [.imm 1 (x.b.map QcC), .i .i64 x.i, .i .i64 x.h] := _root_.id rfl
instance (yxi yxh) {R1 yxb} [H1 : EncL QcC R1 yxb] : EncR VP [.imm 1 R1, .i .i64 yxi, .i .i64 yxh] (⟨yxb, yxi, yxh⟩ : l1Cur) := ⟨by obtain ⟨rfl⟩ := H1; rfl⟩
def Qku (x : l1Cur) : List AV := [.own 1 (x.b.map QcC), .i .i64 x.i, .i .i64 x.h]
theorem QiQ (x : l1Cur) : Qku x = [.own 1 (x.b.map QcC), .i .i64 x.i, .i .i64 x.h] := _root_.id rfl
instance (yxi yxh) {R1 yxb} [H1 : EncL QcC R1 yxb] : EncR Qku [.own 1 R1, .i .i64 yxi, .i .i64 yxh] (⟨yxb, yxi, yxh⟩ : l1Cur) := ⟨by obtain ⟨rfl⟩ := H1; rfl⟩
theorem Qv0 (xs : List l1Cur) : Qt (xs.map Qku) = xs.map VP := Qay (fun x => by simp only [QiQ, QpW, Vi, V9, QAX]) xs
theorem Qwp (xs : List l1Cur) : QX (xs.map Qku) = true := J0 (fun x => by simp only [QiQ, XP, AV.clean, Bool.and_self, QAO]) xs
theorem Qvi (x : l1Cur) : (⟨x.b, x.i, x.h⟩ : l1Cur) = x := _root_.id rfl
def Vj (x : Slot) : List AV := [.i .i64 x.Id, .i .i64 x.Size, .i .i64 x.Thing]
theorem Qm9 (x : Slot) : Vj x = [.i .i64 x.Id, .i .i64 x.Size, .i .i64 x.Thing] := _root_.id rfl
instance (yxId yxSize yxThing)  : EncR Vj [.i .i64 yxId, .i .i64 yxSize, .i .i64 yxThing] (⟨yxId, yxSize, yxThing⟩ : Slot) := ⟨by rfl⟩
theorem Qs3 (xs : List Slot) : Qt (xs.map Vj) = xs.map Vj := Qay (fun x => by simp only [Qm9, Vi, V9]) xs
theorem QrL (xs : List Slot) : QX (xs.map Vj) = true := J0 (fun x => by simp only [Qm9, XP, AV.clean, Bool.and_self]) xs
theorem QxA (x : Slot) : (⟨x.Id, x.Size, x.Thing⟩ : Slot) = x := _root_.id rfl
def Xu (x : Mark) : List AV := [.i .i64 x.Question, .i .i64 x.Answer]
theorem QnR (x : Mark) : Xu x = [.i .i64 x.Question, .i .i64 x.Answer] := _root_.id rfl
instance (yxQuestion yxAnswer)  : EncR Xu [.i .i64 yxQuestion, .i .i64 yxAnswer] (⟨yxQuestion, yxAnswer⟩ : Mark) := ⟨by rfl⟩
theorem QnL (xs : List Mark) : Qt (xs.map Xu) = xs.map Xu := Qay (fun x => by simp only [QnR, Vi, V9]) xs
theorem QnE (xs : List Mark) : QX (xs.map Xu) = true := J0 (fun x => by simp only [QnR, XP, AV.clean, Bool.and_self]) xs
theorem Qyh (x : Mark) : (⟨x.Question, x.Answer⟩ : Mark) = x := _root_.id rfl
def VF (x : Secret) : List AV := [.i .i64 x.Thing, .imm 2 (x.Marks.map Xu), .i .i64 x.Salt]
theorem QmE (x : Secret) : VF x = [.i .i64 x.Thing, .imm 2 (x.Marks.map Xu), .i .i64 x.Salt] := _root_.id rfl
instance (yxThing yxSalt) {R1 yxMarks} [H1 : EncL Xu R1 yxMarks] : EncR VF [.i .i64 yxThing, .imm 2 R1, .i .i64 yxSalt] (⟨yxThing, yxMarks, yxSalt⟩ : Secret) := ⟨by obtain ⟨rfl⟩ := H1; rfl⟩
def Xg (x : Secret) : List AV := [.i .i64 x.Thing, .own 2 (x.Marks.map Xu), .i .i64 x.Salt]
theorem Qhf (x : Secret) : Xg x = [.i .i64 x.Thing, .own 2 (x.Marks.map Xu), .i .i64 x.Salt] := _root_.id rfl
instance (yxThing yxSalt) {R1 yxMarks} [H1 : EncL Xu R1 yxMarks] : EncR Xg [.i .i64 yxThing, .own 2 R1, .i .i64 yxSalt] (⟨yxThing, yxMarks, yxSalt⟩ : Secret) := ⟨by obtain ⟨rfl⟩ := H1; rfl⟩
theorem QmC (xs : List Secret) : Qt (xs.map Xg) = xs.map VF := Qay (fun x => by simp only [Qhf, QmE, Vi, V9, QnL]) xs
theorem Qm3 (xs : List Secret) : QX (xs.map Xg) = true := J0 (fun x => by simp only [Qhf, XP, AV.clean, Bool.and_self, QnE]) xs
theorem Qtk (x : Secret) : (⟨x.Thing, x.Marks, x.Salt⟩ : Secret) = x := _root_.id rfl
def Qdp (x : Thing) : List AV := [.i .i64 x.Id, .i .i64 x.Kind, .i .i64 x.Colour, .i .i64 x.Size, .i .i64 x.Worth]
theorem QlZ (x : Thing) : Qdp x = [.i .i64 x.Id, .i .i64 x.Kind, .i .i64 x.Colour, .i .i64 x.Size, .i .i64 x.Worth] := _root_.id rfl
instance (yxId yxKind yxColour yxSize yxWorth)  : EncR Qdp [.i .i64 yxId, .i .i64 yxKind, .i .i64 yxColour, .i .i64 yxSize, .i .i64 yxWorth] (⟨yxId, yxKind, yxColour, yxSize, yxWorth⟩ : Thing) := ⟨by rfl⟩
theorem Qxn (xs : List Thing) : Qt (xs.map Qdp) = xs.map Qdp := Qay (fun x => by simp only [QlZ, Vi, V9]) xs
theorem Qvu (xs : List Thing) : QX (xs.map Qdp) = true := J0 (fun x => by simp only [QlZ, XP, AV.clean, Bool.and_self]) xs
theorem QuY (x : Thing) : (⟨x.Id, x.Kind, x.Colour, x.Size, x.Worth⟩ : Thing) = x := _root_.id rfl
def Vk (x : Find) : List AV := [.i .i64 x.Thing.Id, .i .i64 x.Thing.Kind, .i .i64 x.Thing.Colour, .i .i64 x.Thing.Size, .i .i64 x.Thing.Worth, .i .i64 x.Place, .i .i64 x.At, .i .i64 x.Finder]
theorem QnC (x : Find) : Vk x = [.i .i64 x.Thing.Id, .i .i64 x.Thing.Kind, .i .i64 x.Thing.Colour, .i .i64 x.Thing.Size, .i .i64 x.Thing.Worth, .i .i64 x.Place, .i .i64 x.At, .i .i64 x.Finder] := _root_.id rfl
instance (yxThingxId yxThingxKind yxThingxColour yxThingxSize yxThingxWorth yxPlace yxAt yxFinder)  : EncR Vk [.i .i64 yxThingxId, .i .i64 yxThingxKind, .i .i64 yxThingxColour, .i .i64 yxThingxSize, .i .i64 yxThingxWorth, .i .i64 yxPlace, .i .i64 yxAt, .i .i64 yxFinder] (⟨⟨yxThingxId, yxThingxKind, yxThingxColour, yxThingxSize, yxThingxWorth⟩, yxPlace, yxAt, yxFinder⟩ : Find) := ⟨by rfl⟩
theorem Qtc (xs : List Find) : Qt (xs.map Vk) = xs.map Vk := Qay (fun x => by simp only [QnC, Vi, V9]) xs
theorem Qsk (xs : List Find) : QX (xs.map Vk) = true := J0 (fun x => by simp only [QnC, XP, AV.clean, Bool.and_self]) xs
theorem QyO (x : Find) : (⟨x.Thing, x.Place, x.At, x.Finder⟩ : Find) = x := _root_.id rfl
def QC (x : Claim) : List AV := [.i .i64 x.Id, .i .i64 x.Who, .i .i64 x.Thing, .i .i64 x.At, .i .i64 x.State]
theorem QkJ (x : Claim) : QC x = [.i .i64 x.Id, .i .i64 x.Who, .i .i64 x.Thing, .i .i64 x.At, .i .i64 x.State] := _root_.id rfl
instance (yxId yxWho yxThing yxAt yxState)  : EncR QC [.i .i64 yxId, .i .i64 yxWho, .i .i64 yxThing, .i .i64 yxAt, .i .i64 yxState] (⟨yxId, yxWho, yxThing, yxAt, yxState⟩ : Claim) := ⟨by rfl⟩
theorem QpI (xs : List Claim) : Qt (xs.map QC) = xs.map QC := Qay (fun x => by simp only [QkJ, Vi, V9]) xs
theorem QoO (xs : List Claim) : QX (xs.map QC) = true := J0 (fun x => by simp only [QkJ, XP, AV.clean, Bool.and_self]) xs
theorem QwN (x : Claim) : (⟨x.Id, x.Who, x.Thing, x.At, x.State⟩ : Claim) = x := _root_.id rfl
def XT (x : Trial) : List AV := [.i .i64 x.Claim, .i .i64 x.Asked, .i .i64 x.Right, .i .i64 x.Wrong]
theorem QkF (x : Trial) : XT x = [.i .i64 x.Claim, .i .i64 x.Asked, .i .i64 x.Right, .i .i64 x.Wrong] := _root_.id rfl
instance (yxClaim yxAsked yxRight yxWrong)  : EncR XT [.i .i64 yxClaim, .i .i64 yxAsked, .i .i64 yxRight, .i .i64 yxWrong] (⟨yxClaim, yxAsked, yxRight, yxWrong⟩ : Trial) := ⟨by rfl⟩
theorem Qp9 (xs : List Trial) : Qt (xs.map XT) = xs.map XT := Qay (fun x => by simp only [QkF, Vi, V9]) xs
theorem Qoc (xs : List Trial) : QX (xs.map XT) = true := J0 (fun x => by simp only [QkF, XP, AV.clean, Bool.and_self]) xs
theorem Qxp (x : Trial) : (⟨x.Claim, x.Asked, x.Right, x.Wrong⟩ : Trial) = x := _root_.id rfl
def VE (x : Hand) : List AV := [.i .i64 x.Thing, .i .i64 x.Holder, .i .i64 x.Who, .i .i64 x.At, .i .i64 x.Seal]
theorem QnM (x : Hand) : VE x = [.i .i64 x.Thing, .i .i64 x.Holder, .i .i64 x.Who, .i .i64 x.At, .i .i64 x.Seal] := _root_.id rfl
instance (yxThing yxHolder yxWho yxAt yxSeal)  : EncR VE [.i .i64 yxThing, .i .i64 yxHolder, .i .i64 yxWho, .i .i64 yxAt, .i .i64 yxSeal] (⟨yxThing, yxHolder, yxWho, yxAt, yxSeal⟩ : Hand) := ⟨by rfl⟩
theorem Qs1 (xs : List Hand) : Qt (xs.map VE) = xs.map VE := Qay (fun x => by simp only [QnM, Vi, V9]) xs
theorem Qrw (xs : List Hand) : QX (xs.map VE) = true := J0 (fun x => by simp only [QnM, XP, AV.clean, Bool.and_self]) xs
theorem QzO (x : Hand) : (⟨x.Thing, x.Holder, x.Who, x.At, x.Seal⟩ : Hand) = x := _root_.id rfl
def Vw (x : Entry) : List AV := [.i .i64 x.From, .i .i64 x.To, .i .i64 x.Cents, .i .i64 x.At]
theorem Qkv (x : Entry) : Vw x = [.i .i64 x.From, .i .i64 x.To, .i .i64 x.Cents, .i .i64 x.At] := _root_.id rfl
instance (yxFrom yxTo yxCents yxAt)  : EncR Vw [.i .i64 yxFrom, .i .i64 yxTo, .i .i64 yxCents, .i .i64 yxAt] (⟨yxFrom, yxTo, yxCents, yxAt⟩ : Entry) := ⟨by rfl⟩
theorem QoD (xs : List Entry) : Qt (xs.map Vw) = xs.map Vw := Qay (fun x => by simp only [Qkv, Vi, V9]) xs
theorem Qoo (xs : List Entry) : QX (xs.map Vw) = true := J0 (fun x => by simp only [Qkv, XP, AV.clean, Bool.and_self]) xs
theorem QvI (x : Entry) : (⟨x.From, x.To, x.Cents, x.At⟩ : Entry) = x := _root_.id rfl
def QM (x : House) : List AV := [.i .i64 x.No, .imm 8 (x.Finds.map Vk), .imm 3 (x.Secrets.map VF), .imm 3 (x.Slots.map Vj), .imm 5 (x.Claims.map QC), .imm 4 (x.Trials.map XT), .imm 5 (x.Chain.map VE), .imm 4 (x.Book.map Vw), .i .i64 x.Now]
theorem Qp6 (x : House) : QM x = [.i .i64 x.No, .imm 8 (x.Finds.map Vk), .imm 3 (x.Secrets.map VF), .imm 3 (x.Slots.map Vj), .imm 5 (x.Claims.map QC), .imm 4 (x.Trials.map XT), .imm 5 (x.Chain.map VE), .imm 4 (x.Book.map Vw), .i .i64 x.Now] := _root_.id rfl
instance (yxNo yxNow) {R1 yxFinds R2 yxSecrets R3 yxSlots R4 yxClaims R5 yxTrials R6 yxChain R7 yxBook} [H1 : EncL Vk R1 yxFinds] [H2 : EncL VF R2 yxSecrets] [H3 : EncL Vj R3 yxSlots] [H4 : EncL QC R4 yxClaims] [H5 : EncL XT R5 yxTrials] [H6 : EncL VE R6 yxChain] [H7 : EncL Vw R7 yxBook] : EncR QM [.i .i64 yxNo, .imm 8 R1, .imm 3 R2, .imm 3 R3, .imm 5 R4, .imm 4 R5, .imm 5 R6, .imm 4 R7, .i .i64 yxNow] (⟨yxNo, yxFinds, yxSecrets, yxSlots, yxClaims, yxTrials, yxChain, yxBook, yxNow⟩ : House) := ⟨by obtain ⟨rfl⟩ := H1; obtain ⟨rfl⟩ := H2; obtain ⟨rfl⟩ := H3; obtain ⟨rfl⟩ := H4; obtain ⟨rfl⟩ := H5; obtain ⟨rfl⟩ := H6; obtain ⟨rfl⟩ := H7; rfl⟩
def Jb (x : House) : List AV := [.i .i64 x.No, .own 8 (x.Finds.map Vk), .own 3 (x.Secrets.map Xg), .own 3 (x.Slots.map Vj), .own 5 (x.Claims.map QC), .own 4 (x.Trials.map XT), .own 5 (x.Chain.map VE), .own 4 (x.Book.map Vw), .i .i64 x.Now]
theorem Qja (x : House) : Jb x = [.i .i64 x.No, .own 8 (x.Finds.map Vk), .own 3 (x.Secrets.map Xg), .own 3 (x.Slots.map Vj), .own 5 (x.Claims.map QC), .own 4 (x.Trials.map XT), .own 5 (x.Chain.map VE), .own 4 (x.Book.map Vw), .i .i64 x.Now] := _root_.id rfl
instance (yxNo yxNow) {R1 yxFinds R2 yxSecrets R3 yxSlots R4 yxClaims R5 yxTrials R6 yxChain R7 yxBook} [H1 : EncL Vk R1 yxFinds] [H2 : EncL Xg R2 yxSecrets] [H3 : EncL Vj R3 yxSlots] [H4 : EncL QC R4 yxClaims] [H5 : EncL XT R5 yxTrials] [H6 : EncL VE R6 yxChain] [H7 : EncL Vw R7 yxBook] : EncR Jb [.i .i64 yxNo, .own 8 R1, .own 3 R2, .own 3 R3, .own 5 R4, .own 4 R5, .own 5 R6, .own 4 R7, .i .i64 yxNow] (⟨yxNo, yxFinds, yxSecrets, yxSlots, yxClaims, yxTrials, yxChain, yxBook, yxNow⟩ : House) := ⟨by obtain ⟨rfl⟩ := H1; obtain ⟨rfl⟩ := H2; obtain ⟨rfl⟩ := H3; obtain ⟨rfl⟩ := H4; obtain ⟨rfl⟩ := H5; obtain ⟨rfl⟩ := H6; obtain ⟨rfl⟩ := H7; rfl⟩
theorem Qwm (xs : List House) : Qt (xs.map Jb) = xs.map QM := Qay (fun x => by simp only [Qja, Qp6, Vi, V9, QpI, QoD, Qtc, Qs1, QmC, Qs3, Qp9]) xs
theorem Qvw (xs : List House) : QX (xs.map Jb) = true := J0 (fun x => by simp only [Qja, XP, AV.clean, Bool.and_self, QoO, Qoo, Qsk, Qrw, Qm3, QrL, Qoc]) xs
theorem Qwb (x : House) : (⟨x.No, x.Finds, x.Secrets, x.Slots, x.Claims, x.Trials, x.Chain, x.Book, x.Now⟩ : House) = x := _root_.id rfl
def Qbc (x : Bid) : List AV := [.i .i64 x.Who, .i .i64 x.Cents, .i .i64 x.Seal]
theorem Qnw (x : Bid) : Qbc x = [.i .i64 x.Who, .i .i64 x.Cents, .i .i64 x.Seal] := _root_.id rfl
instance (yxWho yxCents yxSeal)  : EncR Qbc [.i .i64 yxWho, .i .i64 yxCents, .i .i64 yxSeal] (⟨yxWho, yxCents, yxSeal⟩ : Bid) := ⟨by rfl⟩
theorem Quz (xs : List Bid) : Qt (xs.map Qbc) = xs.map Qbc := Qay (fun x => by simp only [Qnw, Vi, V9]) xs
theorem Qvg (xs : List Bid) : QX (xs.map Qbc) = true := J0 (fun x => by simp only [Qnw, XP, AV.clean, Bool.and_self]) xs
theorem QBU (x : Bid) : (⟨x.Who, x.Cents, x.Seal⟩ : Bid) = x := _root_.id rfl
theorem QCg (xs : List Bid) : QaN (xs.map Qbc) = true := Qlx (fun x => by rw [Qnw]; rfl) xs
def Qhd (x : Event) : List AV := [.i .i64 x.Kind, .i .i64 x.Find.Thing.Id, .i .i64 x.Find.Thing.Kind, .i .i64 x.Find.Thing.Colour, .i .i64 x.Find.Thing.Size, .i .i64 x.Find.Thing.Worth, .i .i64 x.Find.Place, .i .i64 x.Find.At, .i .i64 x.Find.Finder, .imm 2 (x.Marks.map Xu), .i .i64 x.Id, .i .i64 x.Who, .i .i64 x.N, .imm 3 (x.Bids.map Qbc)]
theorem QoT (x : Event) : Qhd x = [.i .i64 x.Kind, .i .i64 x.Find.Thing.Id, .i .i64 x.Find.Thing.Kind, .i .i64 x.Find.Thing.Colour, .i .i64 x.Find.Thing.Size, .i .i64 x.Find.Thing.Worth, .i .i64 x.Find.Place, .i .i64 x.Find.At, .i .i64 x.Find.Finder, .imm 2 (x.Marks.map Xu), .i .i64 x.Id, .i .i64 x.Who, .i .i64 x.N, .imm 3 (x.Bids.map Qbc)] := _root_.id rfl
instance (yxKind yxFindxThingxId yxFindxThingxKind yxFindxThingxColour yxFindxThingxSize yxFindxThingxWorth yxFindxPlace yxFindxAt yxFindxFinder yxId yxWho yxN) {R1 yxMarks R2 yxBids} [H1 : EncL Xu R1 yxMarks] [H2 : EncL Qbc R2 yxBids] : EncR Qhd [.i .i64 yxKind, .i .i64 yxFindxThingxId, .i .i64 yxFindxThingxKind, .i .i64 yxFindxThingxColour, .i .i64 yxFindxThingxSize, .i .i64 yxFindxThingxWorth, .i .i64 yxFindxPlace, .i .i64 yxFindxAt, .i .i64 yxFindxFinder, .imm 2 R1, .i .i64 yxId, .i .i64 yxWho, .i .i64 yxN, .imm 3 R2] (⟨yxKind, ⟨⟨yxFindxThingxId, yxFindxThingxKind, yxFindxThingxColour, yxFindxThingxSize, yxFindxThingxWorth⟩, yxFindxPlace, yxFindxAt, yxFindxFinder⟩, yxMarks, yxId, yxWho, yxN, yxBids⟩ : Event) := ⟨by obtain ⟨rfl⟩ := H1; obtain ⟨rfl⟩ := H2; rfl⟩
def QeG (x : Event) : List AV := [.i .i64 x.Kind, .i .i64 x.Find.Thing.Id, .i .i64 x.Find.Thing.Kind, .i .i64 x.Find.Thing.Colour, .i .i64 x.Find.Thing.Size, .i .i64 x.Find.Thing.Worth, .i .i64 x.Find.Place, .i .i64 x.Find.At, .i .i64 x.Find.Finder, .own 2 (x.Marks.map Xu), .i .i64 x.Id, .i .i64 x.Who, .i .i64 x.N, .own 3 (x.Bids.map Qbc)]
theorem Qi0 (x : Event) : QeG x = [.i .i64 x.Kind, .i .i64 x.Find.Thing.Id, .i .i64 x.Find.Thing.Kind, .i .i64 x.Find.Thing.Colour, .i .i64 x.Find.Thing.Size, .i .i64 x.Find.Thing.Worth, .i .i64 x.Find.Place, .i .i64 x.Find.At, .i .i64 x.Find.Finder, .own 2 (x.Marks.map Xu), .i .i64 x.Id, .i .i64 x.Who, .i .i64 x.N, .own 3 (x.Bids.map Qbc)] := _root_.id rfl
instance (yxKind yxFindxThingxId yxFindxThingxKind yxFindxThingxColour yxFindxThingxSize yxFindxThingxWorth yxFindxPlace yxFindxAt yxFindxFinder yxId yxWho yxN) {R1 yxMarks R2 yxBids} [H1 : EncL Xu R1 yxMarks] [H2 : EncL Qbc R2 yxBids] : EncR QeG [.i .i64 yxKind, .i .i64 yxFindxThingxId, .i .i64 yxFindxThingxKind, .i .i64 yxFindxThingxColour, .i .i64 yxFindxThingxSize, .i .i64 yxFindxThingxWorth, .i .i64 yxFindxPlace, .i .i64 yxFindxAt, .i .i64 yxFindxFinder, .own 2 R1, .i .i64 yxId, .i .i64 yxWho, .i .i64 yxN, .own 3 R2] (⟨yxKind, ⟨⟨yxFindxThingxId, yxFindxThingxKind, yxFindxThingxColour, yxFindxThingxSize, yxFindxThingxWorth⟩, yxFindxPlace, yxFindxAt, yxFindxFinder⟩, yxMarks, yxId, yxWho, yxN, yxBids⟩ : Event) := ⟨by obtain ⟨rfl⟩ := H1; obtain ⟨rfl⟩ := H2; rfl⟩
theorem Qvr (xs : List Event) : Qt (xs.map QeG) = xs.map Qhd := Qay (fun x => by simp only [Qi0, QoT, Vi, V9, Quz, QnL]) xs
theorem Qw6 (xs : List Event) : QX (xs.map QeG) = true := J0 (fun x => by simp only [Qi0, XP, AV.clean, Bool.and_self, Qvg, QnE]) xs
theorem QuQ (x : Event) : (⟨x.Kind, x.Find, x.Marks, x.Id, x.Who, x.N, x.Bids⟩ : Event) = x := _root_.id rfl
def Qjf (x : Share) : List AV := [.i .i64 x.Who, .i .i64 x.Cents]
theorem QlJ (x : Share) : Qjf x = [.i .i64 x.Who, .i .i64 x.Cents] := _root_.id rfl
instance (yxWho yxCents)  : EncR Qjf [.i .i64 yxWho, .i .i64 yxCents] (⟨yxWho, yxCents⟩ : Share) := ⟨by rfl⟩
theorem Qxg (xs : List Share) : Qt (xs.map Qjf) = xs.map Qjf := Qay (fun x => by simp only [QlJ, Vi, V9]) xs
theorem Qvt (xs : List Share) : QX (xs.map Qjf) = true := J0 (fun x => by simp only [QlJ, XP, AV.clean, Bool.and_self]) xs
theorem Qwu (x : Share) : (⟨x.Who, x.Cents⟩ : Share) = x := _root_.id rfl
def QdU (x : List Int) : List AV := [.imm 1 (x.map QU)]
theorem Qw0 (x : List Int) : QdU x = [.imm 1 (x.map QU)] := _root_.id rfl
instance {R} {x : List Int} [H : EncL QU R x] : EncR QdU [.imm 1 R] x := ⟨by obtain ⟨rfl⟩ := H; rfl⟩
theorem QtP {R : List (List AV)} {xs : List (List Int)} (i : Int) [h : EncL QdU R xs] : inb R i = inb xs i := by rw [h.eq, Qmq]
theorem Qt6 {R : List (List AV)} {xs : List (List Int)} (i : Int) [h : EncL QdU R xs] (hi : inb xs i = true) : Qy R i.toNat = QdU (gt xs i) := by rw [h.eq, Qm0 xs i hi]
def QIr := aI @Qko <| aI @QCf <| aI @QCy <| aI @QCq <| aI @QBO <| aI @QDV <| aI @Qnf <| aI @QAX <| aI @QAO <| aI @QFq <| aI @QEL <| aI @QJU <| aI @QrA <| aI @QMQ <| aI @QLH <| aI @QPM <| aI @QOf <| aI @QNY <| aI @Qst <| aI @QMW <| aI @QMG <| aI @QNB <| aI @QNd <| aI @QOS <| aI @QpW <| aI @Qv0 <| aI @Qwp <| aI @Qvi <| aI @QiQ <| aI @Qm9 <| aI @Qs3 <| aI @QrL <| aI @QxA <| aI @QnR <| aI @QnL <| aI @QnE <| aI @Qyh <| aI @QmE <| aI @QmC <| aI @Qm3 <| aI @Qtk <| aI @Qhf <| aI @QlZ <| aI @Qxn <| aI @Qvu <| aI @QuY <| aI @QnC <| aI @Qtc <| aI @Qsk <| aI @QyO <| aI @QkJ <| aI @QpI <| aI @QoO <| aI @QwN <| aI @QkF <| aI @Qp9 <| aI @Qoc <| aI @Qxp <| aI @QnM <| aI @Qs1 <| aI @Qrw <| aI @QzO <| aI @Qkv <| aI @QoD <| aI @Qoo <| aI @QvI <| aI @Qp6 <| aI @Qwm <| aI @Qvw <| aI @Qwb <| aI @Qja <| aI @Qnw <| aI @Quz <| aI @Qvg <| aI @QBU <| aI @QCg <| aI @QoT <| aI @Qvr <| aI @Qw6 <| aI @QuQ <| aI @Qi0 <| aI @QlJ <| aI @Qxg <| aI @Qvt <| aI @Qwu <| aI @Qw0 <| aI @QtP @Qt6
theorem tys : bsl Tryz.prog 5 = false ∧ QkL Tryz.prog 90 = true ∧ Qdi Tryz.prog 217 = [0, 0] ∧ Qdi Tryz.prog 24 = [0, 0, 0, 0, 0, 0, 0, 0] ∧ Qdi Tryz.prog 25 = [0, 2, 0] ∧ Qdi Tryz.prog 26 = [0, 0, 0] ∧ Qdi Tryz.prog 268 = [1] ∧ Qdi Tryz.prog 27 = [0, 0, 0, 0, 0] ∧ Qdi Tryz.prog 28 = [0, 0, 0, 0] ∧ Qdi Tryz.prog 29 = [0, 0, 0, 0, 0] ∧ Qdi Tryz.prog 30 = [0, 0, 0, 0] ∧ Qdi Tryz.prog 42 = [0] ∧ Qdi Tryz.prog 86 = [0, 0, 0, 0, 0, 0, 0, 0, 0, 2, 0, 0, 0, 3] ∧ Qdi Tryz.prog 90 = [0, 0] ∧ Qdi Tryz.prog 91 = [0, 0, 0] ∧ tb Tryz.prog 119 = some 24 ∧ tb Tryz.prog 126 = some 32 ∧ tb Tryz.prog 156 = some 16 ∧ tb Tryz.prog 158 = some 40 ∧ tb Tryz.prog 266 = some 24 ∧ tb Tryz.prog 3 = some 8 ∧ tb Tryz.prog 49 = some 32 ∧ tb Tryz.prog 63 = some 64 ∧ tb Tryz.prog 93 = some 144 ∧ tb Tryz.prog 95 = some 40 ∧ tb Tryz.prog 99 = some 40 ∧ tbd Tryz.prog 119 = .st [.i .i64 0, .i .i64 0, .i .i64 0] [(0, 1), (1, 1), (2, 1)] ∧ tbd Tryz.prog 126 = .st [.i .i64 0, .i .i64 0, .i .i64 0, .i .i64 0] [(0, 1), (1, 1), (2, 1), (3, 1)] ∧ tbd Tryz.prog 156 = .st [.i .i64 0, .i .i64 0] [(0, 1), (1, 1)] ∧ tbd Tryz.prog 158 = .st [.i .i64 0, .nil, .i .i64 0] [(0, 1), (1, 1), (2, 1)] ∧ tbd Tryz.prog 170 = .st [.nil, .i .i64 0, .i .i64 0] [(0, 1), (1, 1), (2, 1)] ∧ tbd Tryz.prog 220 = .st [.i .i64 0, .i .i64 0] [(0, 1), (1, 1)] ∧ tbd Tryz.prog 266 = .st [.i .i64 0, .i .i64 0, .i .i64 0] [(0, 1), (1, 1), (2, 1)] ∧ tbd Tryz.prog 32 = .st [.i .i64 0, .nil, .nil, .nil, .nil, .nil, .nil, .nil, .i .i64 0] [(0, 1), (1, 1), (2, 1), (3, 1), (4, 1), (5, 1), (6, 1), (7, 1), (8, 1)] ∧ tbd Tryz.prog 49 = .st [.i .i64 0, .i .i64 0, .i .i64 0, .i .i64 0] [(0, 1), (1, 1), (2, 1), (3, 1)] ∧ tbd Tryz.prog 61 = .st [.i .i64 0, .i .i64 0, .i .i64 0, .i .i64 0, .i .i64 0] [(0, 1), (1, 1), (2, 1), (3, 1), (4, 1)] ∧ tbd Tryz.prog 63 = .st [.i .i64 0, .i .i64 0, .i .i64 0, .i .i64 0, .i .i64 0, .i .i64 0, .i .i64 0, .i .i64 0] [(0, 5), (5, 1), (6, 1), (7, 1)] ∧ tbd Tryz.prog 93 = .st [.i .i64 0, .i .i64 0, .i .i64 0, .i .i64 0, .i .i64 0, .i .i64 0, .i .i64 0, .i .i64 0, .i .i64 0, .nil, .i .i64 0, .i .i64 0, .i .i64 0, .nil] [(0, 1), (1, 8), (9, 1), (10, 1), (11, 1), (12, 1), (13, 1)] ∧ tbd Tryz.prog 95 = .st [.i .i64 0, .i .i64 0, .i .i64 0, .i .i64 0, .i .i64 0] [(0, 1), (1, 1), (2, 1), (3, 1), (4, 1)] ∧ tbd Tryz.prog 99 = .st [.i .i64 0, .i .i64 0, .i .i64 0, .i .i64 0, .i .i64 0] [(0, 1), (1, 1), (2, 1), (3, 1), (4, 1)] ∧ QjN Tryz.prog 4 = some [.t] ∧ tfo Tryz.prog 119 0 = some (0, .one) ∧ tfo Tryz.prog 119 1 = some (1, .one) ∧ tfo Tryz.prog 119 2 = some (2, .one) ∧ tfo Tryz.prog 126 0 = some (0, .one) ∧ tfo Tryz.prog 126 1 = some (1, .one) ∧ tfo Tryz.prog 126 2 = some (2, .one) ∧ tfo Tryz.prog 126 3 = some (3, .one) ∧ tfo Tryz.prog 156 0 = some (0, .one) ∧ tfo Tryz.prog 156 1 = some (1, .one) ∧ tfo Tryz.prog 158 0 = some (0, .one) ∧ tfo Tryz.prog 158 1 = some (1, .one) ∧ tfo Tryz.prog 158 2 = some (2, .one) ∧ tfo Tryz.prog 170 0 = some (0, .one) ∧ tfo Tryz.prog 170 1 = some (1, .one) ∧ tfo Tryz.prog 170 2 = some (2, .one) ∧ tfo Tryz.prog 220 0 = some (0, .one) ∧ tfo Tryz.prog 220 1 = some (1, .one) ∧ tfo Tryz.prog 266 0 = some (0, .one) ∧ tfo Tryz.prog 266 1 = some (1, .one) ∧ tfo Tryz.prog 266 2 = some (2, .one) ∧ tfo Tryz.prog 32 0 = some (0, .one) ∧ tfo Tryz.prog 32 1 = some (1, .one) ∧ tfo Tryz.prog 32 2 = some (2, .one) ∧ tfo Tryz.prog 32 3 = some (3, .one) ∧ tfo Tryz.prog 32 4 = some (4, .one) ∧ tfo Tryz.prog 32 5 = some (5, .one) ∧ tfo Tryz.prog 32 6 = some (6, .one) ∧ tfo Tryz.prog 32 7 = some (7, .one) ∧ tfo Tryz.prog 32 8 = some (8, .one) ∧ tfo Tryz.prog 49 0 = some (0, .one) ∧ tfo Tryz.prog 49 1 = some (1, .one) ∧ tfo Tryz.prog 49 2 = some (2, .one) ∧ tfo Tryz.prog 49 3 = some (3, .one) ∧ tfo Tryz.prog 61 0 = some (0, .one) ∧ tfo Tryz.prog 61 1 = some (1, .one) ∧ tfo Tryz.prog 61 2 = some (2, .one) ∧ tfo Tryz.prog 61 3 = some (3, .one) ∧ tfo Tryz.prog 61 4 = some (4, .one) ∧ tfo Tryz.prog 63 0 = some (0, .agg 5) ∧ tfo Tryz.prog 63 1 = some (5, .one) ∧ tfo Tryz.prog 63 2 = some (6, .one) ∧ tfo Tryz.prog 63 3 = some (7, .one) ∧ tfo Tryz.prog 93 0 = some (0, .one) ∧ tfo Tryz.prog 93 1 = some (1, .agg 8) ∧ tfo Tryz.prog 93 2 = some (9, .one) ∧ tfo Tryz.prog 93 3 = some (10, .one) ∧ tfo Tryz.prog 93 4 = some (11, .one) ∧ tfo Tryz.prog 93 5 = some (12, .one) ∧ tfo Tryz.prog 93 6 = some (13, .one) ∧ tfo Tryz.prog 95 0 = some (0, .one) ∧ tfo Tryz.prog 95 1 = some (1, .one) ∧ tfo Tryz.prog 95 2 = some (2, .one) ∧ tfo Tryz.prog 95 3 = some (3, .one) ∧ tfo Tryz.prog 95 4 = some (4, .one) ∧ tfo Tryz.prog 99 0 = some (0, .one) ∧ tfo Tryz.prog 99 1 = some (1, .one) ∧ tfo Tryz.prog 99 2 = some (2, .one) ∧ tfo Tryz.prog 99 3 = some (3, .one) ∧ tfo Tryz.prog 99 4 = some (4, .one) ∧ ti Tryz.prog 217 = .sl 220 2 ∧ ti Tryz.prog 22 = .sl 5 1 ∧ ti Tryz.prog 24 = .sl 63 8 ∧ ti Tryz.prog 25 = .sl 158 3 ∧ ti Tryz.prog 26 = .sl 119 3 ∧ ti Tryz.prog 268 = .sl 42 1 ∧ ti Tryz.prog 27 = .sl 99 5 ∧ ti Tryz.prog 28 = .sl 49 4 ∧ ti Tryz.prog 29 = .sl 95 5 ∧ ti Tryz.prog 3 = .int .i64 ∧ ti Tryz.prog 30 = .sl 126 4 ∧ ti Tryz.prog 42 = .sl 3 1 ∧ ti Tryz.prog 86 = .sl 93 14 ∧ ti Tryz.prog 90 = .sl 156 2 ∧ ti Tryz.prog 91 = .sl 266 3 ∧ tk Tryz.prog 119 = .agg 3 ∧ tk Tryz.prog 126 = .agg 4 ∧ tk Tryz.prog 156 = .agg 2 ∧ tk Tryz.prog 158 = .agg 3 ∧ tk Tryz.prog 22 = .one ∧ tk Tryz.prog 24 = .one ∧ tk Tryz.prog 25 = .one ∧ tk Tryz.prog 26 = .one ∧ tk Tryz.prog 266 = .agg 3 ∧ tk Tryz.prog 27 = .one ∧ tk Tryz.prog 28 = .one ∧ tk Tryz.prog 29 = .one ∧ tk Tryz.prog 3 = .one ∧ tk Tryz.prog 30 = .one ∧ tk Tryz.prog 32 = .agg 9 ∧ tk Tryz.prog 42 = .one ∧ tk Tryz.prog 49 = .agg 4 ∧ tk Tryz.prog 5 = .one ∧ tk Tryz.prog 61 = .agg 5 ∧ tk Tryz.prog 63 = .agg 8 ∧ tk Tryz.prog 90 = .one ∧ tk Tryz.prog 91 = .one ∧ tk Tryz.prog 93 = .agg 14 ∧ tk Tryz.prog 95 = .agg 5 ∧ tk Tryz.prog 99 = .agg 5 ∧ Qax Tryz.prog 24 = true ∧ Qax Tryz.prog 25 = true ∧ Qax Tryz.prog 26 = true ∧ Qax Tryz.prog 27 = true ∧ Qax Tryz.prog 28 = true ∧ Qax Tryz.prog 29 = true ∧ Qax Tryz.prog 30 = true ∧ Qax Tryz.prog 42 = true ∧ Qax Tryz.prog 86 = true ∧ Qax Tryz.prog 90 = true ∧ Qax Tryz.prog 91 = true ∧ tok Tryz.prog 5 = true ∧ tse Tryz.prog 217 = some (220, 2, [.i .i64 0, .i .i64 0]) ∧ tse Tryz.prog 24 = some (63, 8, [.i .i64 0, .i .i64 0, .i .i64 0, .i .i64 0, .i .i64 0, .i .i64 0, .i .i64 0, .i .i64 0]) ∧ tse Tryz.prog 25 = some (158, 3, [.i .i64 0, .nil, .i .i64 0]) ∧ tse Tryz.prog 26 = some (119, 3, [.i .i64 0, .i .i64 0, .i .i64 0]) ∧ tse Tryz.prog 268 = some (42, 1, [.nil]) ∧ tse Tryz.prog 27 = some (99, 5, [.i .i64 0, .i .i64 0, .i .i64 0, .i .i64 0, .i .i64 0]) ∧ tse Tryz.prog 28 = some (49, 4, [.i .i64 0, .i .i64 0, .i .i64 0, .i .i64 0]) ∧ tse Tryz.prog 29 = some (95, 5, [.i .i64 0, .i .i64 0, .i .i64 0, .i .i64 0, .i .i64 0]) ∧ tse Tryz.prog 30 = some (126, 4, [.i .i64 0, .i .i64 0, .i .i64 0, .i .i64 0]) ∧ tse Tryz.prog 42 = some (3, 1, [.i .i64 0]) ∧ tse Tryz.prog 86 = some (93, 14, [.i .i64 0, .i .i64 0, .i .i64 0, .i .i64 0, .i .i64 0, .i .i64 0, .i .i64 0, .i .i64 0, .i .i64 0, .nil, .i .i64 0, .i .i64 0, .i .i64 0, .nil]) ∧ tse Tryz.prog 90 = some (156, 2, [.i .i64 0, .i .i64 0]) ∧ tse Tryz.prog 91 = some (266, 3, [.i .i64 0, .i .i64 0, .i .i64 0]) ∧ tzc Tryz.prog 119 = some [.i .i64 0, .i .i64 0, .i .i64 0] ∧ tzc Tryz.prog 126 = some [.i .i64 0, .i .i64 0, .i .i64 0, .i .i64 0] ∧ tzc Tryz.prog 156 = some [.i .i64 0, .i .i64 0] ∧ tzc Tryz.prog 158 = some [.i .i64 0, .nil, .i .i64 0] ∧ tzc Tryz.prog 266 = some [.i .i64 0, .i .i64 0, .i .i64 0] ∧ tzc Tryz.prog 32 = some [.i .i64 0, .nil, .nil, .nil, .nil, .nil, .nil, .nil, .i .i64 0] ∧ tzc Tryz.prog 49 = some [.i .i64 0, .i .i64 0, .i .i64 0, .i .i64 0] ∧ tzc Tryz.prog 61 = some [.i .i64 0, .i .i64 0, .i .i64 0, .i .i64 0, .i .i64 0] ∧ tzc Tryz.prog 63 = some [.i .i64 0, .i .i64 0, .i .i64 0, .i .i64 0, .i .i64 0, .i .i64 0, .i .i64 0, .i .i64 0] ∧ tzc Tryz.prog 93 = some [.i .i64 0, .i .i64 0, .i .i64 0, .i .i64 0, .i .i64 0, .i .i64 0, .i .i64 0, .i .i64 0, .i .i64 0, .nil, .i .i64 0, .i .i64 0, .i .i64 0, .nil] ∧ tzc Tryz.prog 95 = some [.i .i64 0, .i .i64 0, .i .i64 0, .i .i64 0, .i .i64 0] ∧ tzc Tryz.prog 99 = some [.i .i64 0, .i .i64 0, .i .i64 0, .i .i64 0, .i .i64 0] := by and_intros <;> kernel_rfl
def xt (g : Nat) (args : List AV) : Option AV := match args with
 | [.nil, .i .i64 x] => if g = 277 then (J8 x).map fun r => .own 1 (r.map QU) else none
 | _ => none
def An3 : Ann := { jn := [(5, (5, 12, 30)), (6, (2, 30, 42))] }
def An8 : Ann := {}
def An9 : Ann := { sh := [.a [0, 8, 3, 3, 5, 4, 5, 4, 0]] }
def QxR : Ann := {}
def QzA : Ann := { ord := [(1, [0, 1, 2, 3, 4, 5, 6, 7, 8, 9, 10, 11, 12, 13, 14, 15, 16, 17, 18, 19, 20, 21, 22, 23, 24, 25, 26, 27, 28, 29, 30, 31, 32, 33, 34, 35, 36, 37, 38, 39, 40, 41, 42, 44, 45, 43, 46, 47, 48, 49, 50, 51, 52, 53])], jn := [(1, (2, 3, 56))] }
def Qxb : Ann := { jn := [(6, (38, 22, 38))], lp := [(3, ⟨[1, 3, 13, 14, 15], [.s 1 0, .s 3 1], [], []⟩)], rt := ⟨[2], [], [], []⟩ }
def Qxa : Ann := { jn := [(4, (20, 13, 20)), (6, (38, 26, 38))], lp := [(2, ⟨[1, 7, 8, 9], [.s 1 0], [], []⟩)], rt := ⟨[2], [], [], []⟩ }
def QvT : Ann := { jn := [(4, (20, 13, 20)), (6, (38, 26, 38))], lp := [(2, ⟨[1, 7, 8, 9], [.s 1 0], [], []⟩)], rt := ⟨[2], [], [], []⟩ }
def QuU : Ann := { jn := [(7, (2, 21, 29))], lp := [(3, ⟨[1, 3, 8, 9, 10], [.s 1 0, .s 8 1], [1, 3], [.s 1 0]⟩)] }
def Qwr : Ann := { jn := [(6, (54, 15, 54))], lp := [(4, ⟨[0, 8, 9, 10], [], [], []⟩)], rt := ⟨[2], [], [], []⟩ }
def QvM : Ann := { ac := [(10, 0)], jn := [(7, (36, 20, 36))], lp := [(5, ⟨[0, 1, 5, 13, 14, 15], [.s 5 1], [5], [.s 5 1]⟩)], sh := [.z 1] }
def QwJ : Ann := { jn := [(6, (34, 15, 34))], lp := [(4, ⟨[0, 8, 9, 10], [], [], []⟩)], rt := ⟨[2], [], [], []⟩ }
def Qxi : Ann := { jn := [(4, (35, 10, 35))], lp := [(2, ⟨[0, 3], [], [0], []⟩)], rt := ⟨[2], [], [], []⟩ }
def QzC : Ann := {}
def Qzh : Ann := { jn := [(1, (48, 3, 48)), (3, (86, 49, 86)), (5, (2, 87, 93))] }
def QzG : Ann := {}
def Qzx : Ann := { sh := [.z 2] }
def Qzt : Ann := { av := [(1, [74]), (2, [99])], sh := [.a [0, 8, 3, 3, 5, 4, 5, 4, 0]] }
def Qxu : Ann := { jn := [(1, (6, 7, 15))] }
def Qxk : Ann := { jn := [(6, (51, 15, 51))], lp := [(4, ⟨[0, 8, 9, 10], [], [], []⟩)], rt := ⟨[2], [], [], []⟩ }
def QtE : Ann := { jn := [(6, (59, 17, 59)), (11, (82, 68, 82))], lp := [(4, ⟨[0, 10, 11, 12], [], [], []⟩), (9, ⟨[0, 4, 10, 11, 12, 62, 63, 64], [.s 4 0], [0, 10, 11, 12], []⟩)], rt := ⟨[2], [], [], []⟩ }
def Quo : Ann := { jn := [(7, (61, 17, 61)), (13, (83, 73, 83))], lp := [(5, ⟨[0, 3, 10, 11, 12], [], [], []⟩)], rt := ⟨[2], [], [], []⟩ }
def QvA : Ann := { jn := [(6, (58, 15, 58))], lp := [(4, ⟨[0, 8, 9, 10], [], [], []⟩)], rt := ⟨[2], [], [], []⟩ }
def Qql : Ann := { ord := [(7, [0, 1, 2, 3, 4, 5, 6, 7, 8, 9, 10, 11, 12, 13, 14, 15, 18, 19, 20, 21, 16, 17, 22, 23, 24])], jn := [(7, (54, 30, 54)), (13, (73, 63, 73))], lp := [(5, ⟨[1, 3, 23, 24, 25], [.s 1 0, .s 3 1], [1, 3], [.s 1 0, .s 3 1]⟩), (11, ⟨[1, 3, 57, 58, 59], [.s 1 0, .s 3 1], [1, 3], [.s 1 0, .s 3 1]⟩), (17, ⟨[1, 75, 76, 77], [.s 1 0, .s 75 1], [], []⟩)], rt := ⟨[2], [], [], []⟩ }
def Quv : Ann := { ord := [(7, [0, 1, 2, 3, 4, 5, 6, 7, 8, 9, 10, 11, 12, 13, 14, 15, 16, 17, 18, 19, 20, 21, 22, 24, 26, 27, 23, 25, 28, 29, 30])], jn := [(7, (56, 26, 56))], lp := [(4, ⟨[1, 14, 15, 16], [.s 1 0], [], []⟩)], rt := ⟨[2], [], [], []⟩ }
def Qog : Ann := { lp := [(3, ⟨[1, 3, 13, 14, 15], [.s 1 0], [1, 3], [.s 1 0]⟩), (8, ⟨[1, 3, 25, 26, 27], [.s 1 0], [1, 3], [.s 1 0]⟩), (13, ⟨[1, 3, 37, 38, 39], [.s 1 0], [1, 3], [.s 1 0]⟩), (18, ⟨[3, 49, 50, 51], [], [3], []⟩)] }
def QwP : Ann := { lp := [(2, ⟨[0, 1, 5], [], [], []⟩)], rt := ⟨[4], [], [], []⟩ }
def Qy7 : Ann := {}
def Qzk : Ann := {}
def QzM : Ann := { jn := [(1, (4, 5, 14))] }
def Qxy : Ann := { jn := [(1, (4, 5, 13))] }
def QvG : Ann := { lp := [(3, ⟨[3, 7, 8, 9], [.s 3 1], [3], [.s 3 1]⟩)], sh := [.z 1] }
def Qzs : Ann := {}
def Qwn : Ann := { nr := some [.s 32 0], jn := [(3, (15, 8, 15))], lp := [(3, ⟨[0, 3, 4], [], [0, 3], []⟩)] }
def QxK : Ann := { ak := [0, 1], av := [(1, [84])] }
def QwY : Ann := { nr := some [.r 0, .s 23 3], ak := [0], av := [(3, [84]), (5, [84])], lp := [(3, ⟨[0, 3, 4], [.s 0 0, .s 3 3], [0, 3], [.s 0 0, .s 3 3]⟩)], sh := [.z 3] }
def Qyv : Ann := {}
def Qzb : Ann := { ak := [0], av := [(4, [158]), (5, [158]), (6, [158]), (7, [158])] }
def QyF : Ann := { ord := [(1, [0, 1, 2, 3, 4, 6, 7, 9, 10, 11, 13, 14, 15, 17, 18, 19, 21, 22, 23, 25, 26, 27, 29, 30, 5, 8, 12, 16, 20, 24, 28, 31, 32])], eb := [(1, [5, 12, 16, 20, 24, 28])], sh := [.a [0, 8, 3, 3, 5, 4, 5, 4, 0]] }
def QzQ : Ann := { jn := [(1, (2, 3, 21))] }
def QyW : Ann := { jn := [(1, (2, 3, 21))] }
def Qws : Ann := { lp := [(2, ⟨[0, 1, 7, 8], [], [], []⟩)], rt := ⟨[4], [], [], []⟩ }
def Qya : Ann := {}
def QyN : Ann := { ot := [(8, .one 2 (.alt (.one 0 (.alt (.one 1 (.alt (.one 3 (.one 4 (.one 5 (.one 6 (.one 7 (.one 8 (.one 9 (.one 10 (.one 11 (.one 12 (.one 13 (.done)))))))))))) (.one 5 (.alt (.one 3 (.one 4 (.one 6 (.one 7 (.one 8 (.one 9 (.one 10 (.one 11 (.one 12 (.one 13 (.done))))))))))) (.one 6 (.one 3 (.one 4 (.one 7 (.one 8 (.one 9 (.one 10 (.one 11 (.one 12 (.one 13 (.done))))))))))))))) (.alt (.one 3 (.one 1 (.one 4 (.one 5 (.one 6 (.one 7 (.one 8 (.one 9 (.one 10 (.one 11 (.one 12 (.one 13 (.done))))))))))))) (.one 5 (.alt (.one 1 (.alt (.one 3 (.one 4 (.one 6 (.one 7 (.one 8 (.one 9 (.one 10 (.one 11 (.one 12 (.one 13 (.done))))))))))) (.one 6 (.one 3 (.one 4 (.one 7 (.one 8 (.one 9 (.one 10 (.one 11 (.one 12 (.one 13 (.done))))))))))))) (.alt (.one 3 (.one 1 (.one 4 (.one 6 (.one 7 (.one 8 (.one 9 (.one 10 (.one 11 (.one 12 (.one 13 (.done)))))))))))) (.one 6 (.alt (.one 1 (.one 3 (.one 4 (.one 7 (.one 8 (.one 9 (.one 10 (.one 11 (.one 12 (.one 13 (.done))))))))))) (.one 3 (.one 1 (.one 4 (.one 7 (.one 8 (.one 9 (.one 10 (.one 11 (.one 12 (.one 13 (.done))))))))))))))))))) (.alt (.one 3 (.one 0 (.one 1 (.one 4 (.one 5 (.one 6 (.one 7 (.one 8 (.one 9 (.one 10 (.one 11 (.one 12 (.one 13 (.done)))))))))))))) (.one 5 (.alt (.one 0 (.alt (.one 1 (.alt (.one 3 (.one 4 (.one 6 (.one 7 (.one 8 (.one 9 (.one 10 (.one 11 (.one 12 (.one 13 (.done))))))))))) (.one 6 (.one 3 (.one 4 (.one 7 (.one 8 (.one 9 (.one 10 (.one 11 (.one 12 (.one 13 (.done))))))))))))) (.alt (.one 3 (.one 1 (.one 4 (.one 6 (.one 7 (.one 8 (.one 9 (.one 10 (.one 11 (.one 12 (.one 13 (.done)))))))))))) (.one 6 (.alt (.one 1 (.one 3 (.one 4 (.one 7 (.one 8 (.one 9 (.one 10 (.one 11 (.one 12 (.one 13 (.done))))))))))) (.one 3 (.one 1 (.one 4 (.one 7 (.one 8 (.one 9 (.one 10 (.one 11 (.one 12 (.one 13 (.done)))))))))))))))) (.alt (.one 3 (.one 0 (.one 1 (.one 4 (.one 6 (.one 7 (.one 8 (.one 9 (.one 10 (.one 11 (.one 12 (.one 13 (.done))))))))))))) (.one 6 (.alt (.one 0 (.alt (.one 1 (.one 3 (.one 4 (.one 7 (.one 8 (.one 9 (.one 10 (.one 11 (.one 12 (.one 13 (.done))))))))))) (.one 3 (.one 1 (.one 4 (.one 7 (.one 8 (.one 9 (.one 10 (.one 11 (.one 12 (.one 13 (.done))))))))))))) (.one 3 (.one 0 (.one 1 (.one 4 (.one 7 (.one 8 (.one 9 (.one 10 (.one 11 (.one 12 (.one 13 (.done))))))))))))))))))))], nr := some [.r 0, .g 53 1 8, .g 53 2 3, .g 53 3 3, .g 53 4 5, .g 53 5 4, .g 53 6 5, .g 53 7 4], ak := [0], av := [(1, [102, 103]), (2, [84]), (8, [84])], sh := [.a [0, 8, 3, 3, 5, 4, 5, 4, 0]] }
def Qpl : Ann := { lp := [(3, ⟨[1, 4, 5, 6], [.s 4 0, .s 5 0, .c 1 1 8, .c 1 2 3, .c 1 3 3, .c 1 4 5, .c 1 5 4, .c 1 6 5, .c 1 7 4], [4, 5], [.s 4 0, .s 5 0, .c 1 1 8, .c 1 2 3, .c 1 3 3, .c 1 4 5, .c 1 5 4, .c 1 6 5, .c 1 7 4]⟩)], sh := [.a [0, 8, 3, 3, 5, 4, 5, 4, 0]] }
def Qs8 : Ann := { nr := some [.r 0, .g 15 1 8, .g 15 2 3, .g 15 3 3, .g 15 4 5, .g 15 5 4, .g 15 6 5, .g 15 7 4], ak := [0], av := [(1, [78, 84])], sh := [.a [0, 8, 3, 3, 5, 4, 5, 4, 0]] }
def QpL : Ann := { nr := some [.r 0, .s 26 14], ak := [0], av := [(1, [171]), (2, [84]), (5, [172])], lp := [(3, ⟨[0, 5, 6], [.s 0 0, .s 5 14], [0, 5], [.s 0 0, .s 5 14]⟩)], sh := [.z 14] }
def QrB : Ann := { jn := [(1, (6, 7, 15))] }
def Qp8 : Ann := { jn := [(4, (61, 10, 61))], lp := [(2, ⟨[0, 3], [], [0], []⟩)], rt := ⟨[2], [], [], []⟩ }
def QmQ : Ann := { jn := [(4, (53, 11, 53)), (9, (77, 59, 77))], lp := [(2, ⟨[0, 3], [], [0], []⟩), (7, ⟨[0, 3, 4], [], [0, 3], []⟩)], rt := ⟨[2], [], [], []⟩ }
def Qm7 : Ann := { jn := [(5, (58, 16, 58)), (10, (84, 64, 84))], lp := [(2, ⟨[0, 3], [], [0], []⟩), (8, ⟨[0, 3, 4, 5], [.s 4 0], [0, 3], []⟩)], rt := ⟨[2], [], [], []⟩ }
def Qpo : Ann := { jn := [(3, (15, 7, 15)), (7, (67, 25, 67)), (10, (96, 73, 96))], lp := [(3, ⟨[0, 3, 4], [], [0], []⟩)], rt := ⟨[2], [], [], []⟩ }
def QpP : Ann := { jn := [(5, (58, 15, 58))], lp := [(2, ⟨[0, 3], [], [0], []⟩)], rt := ⟨[2], [], [], []⟩ }
def Qlm : Ann := { ord := [(13, [0, 1, 2, 3, 4, 5, 6, 7, 8, 9, 10, 11, 14, 15, 12, 13, 16, 17, 18, 19, 20, 21, 22, 23, 24, 25, 26, 27, 28, 29])], jn := [(13, (77, 48, 77)), (18, (103, 85, 103))], lp := [(5, ⟨[1, 3, 4], [.s 1 0, .s 3 1], [1, 3], [.s 1 0, .s 3 1]⟩), (10, ⟨[1, 3, 5], [.s 1 0, .s 3 1], [1], [.s 1 0]⟩), (16, ⟨[1, 7], [.s 1 0], [], []⟩)], rt := ⟨[2], [], [], []⟩ }
def QpS : Ann := { ord := [(8, [0, 1, 2, 3, 4, 5, 6, 7, 8, 9, 10, 11, 12, 13, 14, 15, 16, 17, 18, 19, 20, 21, 22, 23, 24, 25, 26, 27, 28, 29, 30, 32, 33, 34, 35, 36, 38, 31, 37, 39, 40, 41, 42, 43, 44, 45, 46, 47])], jn := [(8, (77, 30, 77))], lp := [(4, ⟨[1, 3], [.s 1 0], [], []⟩)], rt := ⟨[2], [], [], []⟩ }
def QrS : Ann := {}
def Qs0 : Ann := {}
def Qsn : Ann := { sh := [.z 2] }
def Qo5 : Ann := { jn := [(6, (39, 15, 39))], lp := [(4, ⟨[0, 8, 9, 10], [], [], []⟩)], rt := ⟨[2], [], [], []⟩ }
def Qs7 : Ann := {}
def QsM : Ann := { jn := [(1, (2, 3, 26))] }
def Qsv : Ann := { jn := [(1, (5, 6, 19)), (3, (19, 20, 30))] }
def Qrl : Ann := {}
def Qod : Ann := { lp := [(2, ⟨[0, 1, 7, 8], [], [], []⟩)], rt := ⟨[4], [], [], []⟩ }
def QsD : Ann := {}
def Qpi : Ann := { lp := [(2, ⟨[0, 1, 7, 8], [], [], []⟩)], rt := ⟨[4], [], [], []⟩ }
def QsJ : Ann := { jn := [(1, (3, 4, 21))] }
def Qsm : Ann := {}
def Qtd : Ann := { ac := [(2, 0), (3, 0)], sh := [.z 1] }
def Qo9 : Ann := { lp := [(3, ⟨[1, 5, 8, 9, 10], [], [5], []⟩)] }
def Qof : Ann := { lp := [(5, ⟨[1, 5, 12, 13, 14], [], [5], []⟩)] }
def Qsp : Ann := { jn := [(2, (20, 11, 20))], sh := [.a [0, 8, 3, 3, 5, 4, 5, 4, 0], .n] }
def QsW : Ann := { ot := [(2, .one 0 (.one 5 (.alt (.one 1 (.alt (.one 2 (.alt (.one 3 (.one 4 (.one 6 (.one 7 (.one 8 (.one 9 (.one 10 (.one 11 (.one 12 (.done)))))))))) (.one 6 (.one 3 (.one 4 (.one 7 (.one 8 (.one 9 (.one 10 (.one 11 (.one 12 (.done)))))))))))) (.one 6 (.one 2 (.one 3 (.one 4 (.one 7 (.one 8 (.one 9 (.one 10 (.one 11 (.one 12 (.done))))))))))))) (.one 6 (.alt (.one 1 (.one 2 (.one 3 (.one 4 (.one 7 (.one 8 (.one 9 (.one 10 (.one 11 (.one 12 (.done))))))))))) (.one 7 (.alt (.one 1 (.one 2 (.one 3 (.one 4 (.one 8 (.one 9 (.one 10 (.one 11 (.one 12 (.done)))))))))) (.one 8 (.one 9 (.one 1 (.one 2 (.one 3 (.one 4 (.one 10 (.one 11 (.one 12 (.done))))))))))))))))), (3, .one 0 (.one 4 (.alt (.one 1 (.alt (.one 2 (.alt (.one 3 (.one 5 (.one 6 (.one 7 (.one 8 (.one 9 (.done))))))) (.one 5 (.one 3 (.one 6 (.one 7 (.one 8 (.one 9 (.done))))))))) (.one 5 (.one 2 (.one 3 (.one 6 (.one 7 (.one 8 (.one 9 (.done)))))))))) (.one 5 (.alt (.one 1 (.one 2 (.one 3 (.one 6 (.one 7 (.one 8 (.one 9 (.done)))))))) (.one 6 (.alt (.one 1 (.one 2 (.one 3 (.one 7 (.one 8 (.one 9 (.done))))))) (.one 7 (.alt (.one 1 (.one 2 (.one 3 (.one 8 (.one 9 (.done)))))) (.one 8 (.one 1 (.one 2 (.one 3 (.one 9 (.done))))))))))))))), (4, .one 0 (.one 1 (.one 5 (.alt (.one 2 (.alt (.one 3 (.alt (.one 4 (.one 6 (.one 7 (.one 8 (.one 9 (.one 10 (.one 11 (.one 12 (.one 13 (.one 14 (.done))))))))))) (.one 6 (.one 4 (.one 7 (.one 8 (.one 9 (.one 10 (.one 11 (.one 12 (.one 13 (.one 14 (.done))))))))))))) (.one 6 (.one 3 (.one 4 (.one 7 (.one 8 (.one 9 (.one 10 (.one 11 (.one 12 (.one 13 (.one 14 (.done)))))))))))))) (.one 6 (.alt (.one 2 (.one 3 (.one 4 (.one 7 (.one 8 (.one 9 (.one 10 (.one 11 (.one 12 (.one 13 (.one 14 (.done)))))))))))) (.one 7 (.alt (.one 2 (.one 3 (.one 4 (.one 8 (.one 9 (.one 10 (.one 11 (.one 12 (.one 13 (.one 14 (.done))))))))))) (.one 8 (.one 2 (.one 3 (.one 4 (.one 9 (.one 10 (.one 11 (.one 12 (.one 13 (.one 14 (.done)))))))))))))))))))], ak := [0] }
def Qpm : Ann := { ord := [(5, [0, 1, 2, 3, 4, 5, 6, 7, 8, 9, 10, 11, 13, 14, 15, 16, 17, 12, 18, 19, 20, 21])], eb := [(5, [18])], lp := [(3, ⟨[0, 3, 4], [.s 3 3], [3], [.s 3 3]⟩)], sh := [.z 3] }
def Qsd : Ann := { jn := [(1, (2, 3, 26))] }
def QsF : Ann := { jn := [(1, (2, 3, 26))] }
def Qr5 : Ann := { ot := [(5, .one 1 (.alt (.one 0 (.alt (.one 2 (.one 3 (.one 4 (.one 5 (.one 6 (.done)))))) (.one 3 (.alt (.one 2 (.one 4 (.one 5 (.one 6 (.done))))) (.one 4 (.one 2 (.one 5 (.one 6 (.done))))))))) (.one 3 (.alt (.one 0 (.alt (.one 2 (.one 4 (.one 5 (.one 6 (.done))))) (.one 4 (.one 2 (.one 5 (.one 6 (.done))))))) (.one 4 (.one 0 (.one 2 (.one 5 (.one 6 (.done))))))))))], sh := [.z 5, .n] }
def QpB : Ann := { jn := [(3, (21, 15, 21))], lp := [(6, ⟨[6, 7, 8], [.s 6 3], [6], [.s 6 3]⟩)], sh := [.z 3, .n] }
def Qtb : Ann := { ot := [(1, .one 1 (.alt (.one 0 (.alt (.one 2 (.one 3 (.one 4 (.one 5 (.one 6 (.done)))))) (.one 3 (.alt (.one 2 (.one 4 (.one 5 (.one 6 (.done))))) (.one 4 (.one 2 (.one 5 (.one 6 (.done))))))))) (.one 3 (.alt (.one 0 (.alt (.one 2 (.one 4 (.one 5 (.one 6 (.done))))) (.one 4 (.one 2 (.one 5 (.one 6 (.done))))))) (.one 4 (.one 0 (.one 2 (.one 5 (.one 6 (.done))))))))))], sh := [.z 4, .n] }
def QsZ : Ann := { sh := [.a [0, 8, 3, 3, 5, 4, 5, 4, 0], .n] }
def QrQ : Ann := { ot := [(5, .one 1 (.one 4 (.alt (.one 0 (.one 2 (.alt (.one 3 (.one 5 (.one 6 (.one 7 (.one 8 (.one 9 (.done))))))) (.one 5 (.one 3 (.one 6 (.one 7 (.one 8 (.one 9 (.done)))))))))) (.one 2 (.alt (.one 0 (.alt (.one 3 (.one 5 (.one 6 (.one 7 (.one 8 (.one 9 (.done))))))) (.one 5 (.one 3 (.one 6 (.one 7 (.one 8 (.one 9 (.done))))))))) (.alt (.one 3 (.alt (.one 0 (.one 5 (.one 6 (.one 7 (.one 8 (.one 9 (.done))))))) (.one 5 (.one 0 (.one 6 (.one 7 (.one 8 (.one 9 (.done))))))))) (.one 5 (.one 0 (.one 3 (.one 6 (.one 7 (.one 8 (.one 9 (.done))))))))))))))], nr := some [.r 0, .g 29 9 2, .g 29 13 3], ak := [0], av := [(1, [248]), (3, [84]), (4, [75]), (5, [84])], sh := [.a [0, 0, 0, 0, 0, 0, 0, 0, 0, 2, 0, 0, 0, 3]] }
def QrF : Ann := { nr := some [.r 0, .g 45 9 2, .g 45 13 3], ak := [0], av := [(1, [75, 84]), (4, [84, 171]), (6, [84]), (8, [249]), (10, [75])], sh := [.a [0, 0, 0, 0, 0, 0, 0, 0, 0, 2, 0, 0, 0, 3]] }
def Qsq : Ann := {}
def QoG : Ann := { jn := [(4, (43, 10, 43))], lp := [(2, ⟨[0, 3], [], [0], []⟩)], rt := ⟨[2], [], [], []⟩ }
def Qr3 : Ann := {}
def Qp2 : Ann := { lp := [(3, ⟨[0, 1, 2, 7, 8], [], [7], []⟩)] }
def Qoa : Ann := { jn := [(3, (16, 9, 16)), (6, (42, 28, 42))], lp := [(3, ⟨[0, 1, 5, 6], [.s 5 1], [5], [.s 5 1]⟩)], sh := [.z 1] }
def Qox : Ann := { lp := [(2, ⟨[0, 1, 5], [], [], []⟩)], rt := ⟨[4], [], [], []⟩ }
def Qp7 : Ann := { jn := [(4, (22, 12, 22))], lp := [(2, ⟨[0, 1, 5], [], [], []⟩)], rt := ⟨[4], [], [], []⟩ }
def QoB : Ann := { lp := [(2, ⟨[0, 1, 5], [], [], []⟩)], rt := ⟨[4], [], [], []⟩ }
def Qsi : Ann := { jn := [(1, (2, 3, 26))] }
def Qr0 : Ann := { jn := [(1, (5, 6, 19)), (3, (19, 20, 30))] }
def QrH : Ann := { sh := [.z 2] }
def QoN : Ann := { lp := [(2, ⟨[0, 1, 7, 8], [], [], []⟩)], rt := ⟨[4], [], [], []⟩ }
def Qor : Ann := { lp := [(2, ⟨[0, 1, 7, 8], [], [], []⟩)], rt := ⟨[4], [], [], []⟩ }
def QsG : Ann := {}
def QpY : Ann := { lp := [(3, ⟨[3, 6, 7, 8], [], [3], []⟩)] }
def Qso : Ann := {}
def QmR : Ann := { lp := [(3, ⟨[0, 3, 9, 10, 11], [], [0, 3], []⟩), (11, ⟨[6, 25, 26, 27], [.s 6 1], [6], [.s 6 1]⟩)], sh := [.z 1] }
def Qpj : Ann := { jn := [(3, (34, 16, 34))], lp := [(6, ⟨[3, 6, 7, 8], [.s 3 0, .s 6 3], [6], [.s 6 3]⟩)], sh := [.z 3, .n] }
def Qr6 : Ann := { ak := [0], av := [(1, [84])] }
def QpO : Ann := { lp := [(3, ⟨[0, 3, 4], [], [3], []⟩)] }
def Qsb : Ann := { av := [(10, [291])], sh := [.a [0, 8, 3, 3, 5, 4, 5, 4, 0], .n] }
def Qoy : Ann := { ot := [(7, .one 0 (.one 1 (.one 2 (.one 3 (.one 4 (.one 6 (.one 7 (.one 12 (.alt (.one 5 (.alt (.one 8 (.alt (.one 9 (.one 10 (.one 11 (.one 13 (.one 14 (.one 15 (.one 16 (.done)))))))) (.one 10 (.alt (.one 9 (.one 11 (.one 13 (.one 14 (.one 15 (.one 16 (.done))))))) (.one 11 (.one 13 (.one 9 (.one 14 (.one 15 (.one 16 (.done))))))))))) (.one 10 (.alt (.one 8 (.alt (.one 9 (.one 11 (.one 13 (.one 14 (.one 15 (.one 16 (.done))))))) (.one 11 (.one 13 (.one 9 (.one 14 (.one 15 (.one 16 (.done))))))))) (.one 11 (.one 13 (.one 8 (.one 9 (.one 14 (.one 15 (.one 16 (.done)))))))))))) (.alt (.one 8 (.alt (.one 5 (.alt (.one 9 (.one 10 (.one 11 (.one 13 (.one 14 (.one 15 (.one 16 (.done)))))))) (.one 10 (.alt (.one 9 (.one 11 (.one 13 (.one 14 (.one 15 (.one 16 (.done))))))) (.one 11 (.one 13 (.one 9 (.one 14 (.one 15 (.one 16 (.done))))))))))) (.one 10 (.alt (.one 5 (.alt (.one 9 (.one 11 (.one 13 (.one 14 (.one 15 (.one 16 (.done))))))) (.one 11 (.one 13 (.one 9 (.one 14 (.one 15 (.one 16 (.done))))))))) (.one 11 (.one 13 (.one 5 (.one 9 (.one 14 (.one 15 (.one 16 (.done)))))))))))) (.one 10 (.alt (.one 5 (.alt (.one 8 (.alt (.one 9 (.one 11 (.one 13 (.one 14 (.one 15 (.one 16 (.done))))))) (.one 11 (.one 13 (.one 9 (.one 14 (.one 15 (.one 16 (.done))))))))) (.one 11 (.one 13 (.one 8 (.one 9 (.one 14 (.one 15 (.one 16 (.done)))))))))) (.alt (.one 8 (.alt (.one 5 (.alt (.one 9 (.one 11 (.one 13 (.one 14 (.one 15 (.one 16 (.done))))))) (.one 11 (.one 13 (.one 9 (.one 14 (.one 15 (.one 16 (.done))))))))) (.one 11 (.one 13 (.one 5 (.one 9 (.one 14 (.one 15 (.one 16 (.done)))))))))) (.one 11 (.one 13 (.alt (.one 5 (.one 8 (.one 9 (.one 14 (.one 15 (.one 16 (.done))))))) (.one 8 (.one 5 (.one 9 (.one 14 (.one 15 (.one 16 (.done)))))))))))))))))))))))], eb := [(7, [47])], av := [(8, [291])], jn := [(5, (44, 30, 44))], lp := [(5, ⟨[1, 3, 4, 8, 10, 12, 13], [.s 4 0, .s 8 0, .s 10 0, .c 2 1 8, .c 2 2 3, .c 2 3 3, .c 2 4 5, .c 2 5 4, .c 2 6 5, .c 2 7 4], [1, 3, 4, 8, 10, 12, 13], [.s 4 0, .s 8 0, .s 10 0, .c 2 1 8, .c 2 2 3, .c 2 3 3, .c 2 4 5, .c 2 5 4, .c 2 6 5, .c 2 7 4]⟩)], sh := [.a [0, 8, 3, 3, 5, 4, 5, 4, 0], .n] }
def QrV : Ann := { av := [(13, [291])], jn := [(3, (34, 19, 34))], sh := [.a [0, 8, 3, 3, 5, 4, 5, 4, 0], .n] }
def Qr1 : Ann := { ot := [(9, .one 0 (.one 1 (.one 2 (.one 3 (.one 4 (.one 5 (.one 6 (.one 7 (.one 8 (.one 9 (.one 10 (.one 11 (.one 12 (.one 13 (.one 14 (.one 15 (.one 16 (.one 17 (.alt (.one 18 (.alt (.one 19 (.one 20 (.one 21 (.one 22 (.one 23 (.one 24 (.one 25 (.done)))))))) (.one 23 (.one 19 (.one 20 (.one 21 (.one 22 (.one 24 (.one 25 (.done)))))))))) (.one 23 (.one 18 (.one 19 (.one 20 (.one 21 (.one 22 (.one 24 (.one 25 (.done))))))))))))))))))))))))))))], av := [(9, [296]), (10, [291])], jn := [(3, (33, 23, 33))], sh := [.a [0, 8, 3, 3, 5, 4, 5, 4, 0], .n] }
def QrO : Ann := { ot := [(9, .one 0 (.one 1 (.one 2 (.one 3 (.one 4 (.one 5 (.one 6 (.one 7 (.one 8 (.alt (.one 9 (.one 10 (.one 11 (.one 12 (.one 13 (.one 14 (.one 15 (.done)))))))) (.one 13 (.one 9 (.one 10 (.one 11 (.one 12 (.one 14 (.one 15 (.done))))))))))))))))))], av := [(6, [296]), (9, [296]), (10, [291]), (11, [291])], jn := [(3, (50, 27, 50))], sh := [.a [0, 8, 3, 3, 5, 4, 5, 4, 0], .n] }
def QrP : Ann := { ot := [(6, .one 0 (.one 1 (.one 2 (.one 3 (.one 4 (.one 5 (.one 6 (.one 7 (.alt (.one 8 (.one 9 (.one 10 (.one 11 (.one 12 (.one 13 (.one 14 (.done)))))))) (.one 12 (.one 8 (.one 9 (.one 10 (.one 11 (.one 13 (.one 14 (.done)))))))))))))))))], av := [(7, [291]), (11, [291])], jn := [(2, (21, 15, 21))], sh := [.a [0, 8, 3, 3, 5, 4, 5, 4, 0], .n] }
def QrR : Ann := { av := [(5, [291])], jn := [(2, (17, 9, 17))], sh := [.a [0, 8, 3, 3, 5, 4, 5, 4, 0], .n] }
def Qrx : Ann := { ak := [0], av := [(1, [84, 222])] }
def Qpt : Ann := { nr := some [.r 0, .s 57 3], ak := [0], av := [(3, [84]), (5, [84]), (9, [84]), (10, [84]), (12, [75]), (14, [75])], lp := [(3, ⟨[0, 3, 4], [.s 0 0, .s 3 3], [0, 3], [.s 0 0, .s 3 3]⟩)], sh := [.z 3] }
def QoI : Ann := { lp := [(3, ⟨[0, 3, 4], [], [3], []⟩)] }
def Qol : Ann := { ot := [(6, .one 1 (.one 2 (.one 3 (.one 5 (.one 8 (.one 9 (.one 10 (.alt (.one 0 (.alt (.one 4 (.one 6 (.one 7 (.one 11 (.one 12 (.done)))))) (.one 6 (.one 4 (.one 7 (.one 11 (.one 12 (.done)))))))) (.one 6 (.one 0 (.one 4 (.one 7 (.one 11 (.one 12 (.done)))))))))))))))], jn := [(2, (17, 6, 17)), (4, (31, 20, 31))], lp := [(2, ⟨[0, 1, 5], [], [0, 1, 5], []⟩)], sh := [.z 1] }
def Qrn : Ann := {}
def QpZ : Ann := { lp := [(2, ⟨[0, 1, 5], [], [], []⟩)], rt := ⟨[4], [], [], []⟩ }
def QsT : Ann := {}
def QoE : Ann := { jn := [(5, (44, 13, 44))], lp := [(3, ⟨[0, 1, 5, 6], [], [0, 5], []⟩)] }
def Qpf : Ann := { ot := [(9, .one 1 (.one 2 (.one 3 (.one 8 (.one 9 (.one 10 (.alt (.one 0 (.alt (.one 4 (.one 5 (.one 6 (.one 7 (.one 11 (.one 12 (.done))))))) (.one 5 (.alt (.one 4 (.one 6 (.one 7 (.one 11 (.one 12 (.done)))))) (.one 6 (.one 4 (.one 7 (.one 11 (.one 12 (.done)))))))))) (.one 5 (.alt (.one 0 (.alt (.one 4 (.one 6 (.one 7 (.one 11 (.one 12 (.done)))))) (.one 6 (.one 4 (.one 7 (.one 11 (.one 12 (.done)))))))) (.one 6 (.one 0 (.one 4 (.one 7 (.one 11 (.one 12 (.done))))))))))))))))], jn := [(6, (7, 19, 40)), (10, (67, 62, 67))], lp := [(4, ⟨[0, 3, 6, 7, 8], [.s 3 0], [0, 3, 6, 7], [.s 3 0]⟩)], sh := [.z 5, .n] }
def Qs9 : Ann := { jn := [(3, (24, 18, 24)), (6, (11, 31, 49)), (8, (60, 54, 60))], sh := [.z 5, .n] }
def QpH : Ann := { ot := [(4, .one 1 (.one 2 (.one 3 (.one 8 (.one 9 (.one 10 (.alt (.one 0 (.alt (.one 4 (.one 5 (.one 6 (.one 7 (.one 11 (.one 12 (.done))))))) (.one 5 (.alt (.one 4 (.one 6 (.one 7 (.one 11 (.one 12 (.done)))))) (.one 6 (.one 4 (.one 7 (.one 11 (.one 12 (.done)))))))))) (.one 5 (.alt (.one 0 (.alt (.one 4 (.one 6 (.one 7 (.one 11 (.one 12 (.done)))))) (.one 6 (.one 4 (.one 7 (.one 11 (.one 12 (.done)))))))) (.one 6 (.one 0 (.one 4 (.one 7 (.one 11 (.one 12 (.done))))))))))))))))], jn := [(2, (23, 8, 23))], lp := [(2, ⟨[0, 3, 6], [.s 3 0], [0, 3, 6], [.s 3 0]⟩)], sh := [.z 8, .n] }
def QoP : Ann := { ot := [(4, .one 0 (.one 1 (.one 2 (.one 4 (.one 8 (.one 9 (.one 10 (.alt (.one 3 (.one 5 (.one 6 (.one 7 (.one 11 (.one 12 (.one 13 (.done)))))))) (.one 5 (.one 3 (.one 6 (.one 7 (.one 11 (.one 12 (.one 13 (.done))))))))))))))))], jn := [(2, (21, 8, 21))], lp := [(2, ⟨[0, 3, 6], [.s 3 0], [0, 3, 6], [.s 3 0]⟩)], sh := [.z 3, .n] }
def Qr9 : Ann := { jn := [(1, (19, 8, 19))], sh := [.a [0, 8, 3, 3, 5, 4, 5, 4, 0], .n] }
def QoR : Ann := { lp := [(2, ⟨[0, 1, 5], [], [], []⟩)], rt := ⟨[4], [], [], []⟩ }
def Qsh : Ann := {}
def Qpk : Ann := { jn := [(5, (44, 13, 44))], lp := [(3, ⟨[0, 1, 5, 6], [], [0, 5], []⟩)] }
def Qsr : Ann := { sh := [.a [0, 8, 3, 3, 5, 4, 5, 4, 0], .n] }
def QrI : Ann := { sh := [.a [0, 8, 3, 3, 5, 4, 5, 4, 0], .n] }
def QrT : Ann := { jn := [(1, (12, 5, 12))] }
def Qr8 : Ann := { jn := [(1, (12, 5, 12))] }
def QpQ : Ann := { jn := [(6, (36, 20, 36)), (10, (42, 43, 53))], lp := [(4, ⟨[1, 2, 3, 7], [.s 3 0], [2, 3], [.s 3 0]⟩)], rt := ⟨[6], [], [], []⟩ }
def QrW : Ann := { sh := [.z 2] }
def QrJ : Ann := {}
def Qro : Ann := {}
def Qsg : Ann := {}
def Qs6 : Ann := {}
def QpN : Ann := { lp := [(2, ⟨[0, 1, 5], [], [], []⟩)], rt := ⟨[4], [], [], []⟩ }
def QmN : Ann := { jn := [(4, (26, 11, 26))], lp := [(2, ⟨[0, 3], [], [0], []⟩), (7, ⟨[0, 3, 4], [], [0, 3], []⟩)], rt := ⟨[2], [], [], []⟩ }
def QmU : Ann := { ot := [(8, .one 1 (.one 2 (.one 3 (.one 5 (.one 6 (.one 11 (.one 12 (.one 13 (.alt (.one 0 (.alt (.one 4 (.one 7 (.one 8 (.one 9 (.one 10 (.one 14 (.one 15 (.done)))))))) (.one 7 (.alt (.one 4 (.one 8 (.one 9 (.one 10 (.one 14 (.one 15 (.done))))))) (.one 8 (.alt (.one 4 (.one 9 (.one 10 (.one 14 (.one 15 (.done)))))) (.one 9 (.one 4 (.one 10 (.one 14 (.one 15 (.done)))))))))))) (.one 7 (.alt (.one 0 (.alt (.one 4 (.one 8 (.one 9 (.one 10 (.one 14 (.one 15 (.done))))))) (.one 8 (.alt (.one 4 (.one 9 (.one 10 (.one 14 (.one 15 (.done)))))) (.one 9 (.one 4 (.one 10 (.one 14 (.one 15 (.done)))))))))) (.one 8 (.alt (.one 0 (.alt (.one 4 (.one 9 (.one 10 (.one 14 (.one 15 (.done)))))) (.one 9 (.one 4 (.one 10 (.one 14 (.one 15 (.done)))))))) (.one 9 (.one 0 (.one 4 (.one 10 (.one 14 (.one 15 (.done))))))))))))))))))))], fz := [(8, [3])], jn := [(6, (30, 15, 30))], lp := [(3, ⟨[0, 3, 4], [.s 3 3], [3], [.s 3 3]⟩), (6, ⟨[0, 3, 4, 5], [.s 3 3], [0, 3, 4, 5], [.s 3 3]⟩)], sh := [.z 3] }
def Qse : Ann := { jn := [(1, (4, 5, 13))] }
def QlA : Ann := { jn := [(9, (43, 31, 43))], lp := [(4, ⟨[0, 1, 5, 6, 7], [.s 5 1], [0, 1, 5, 6], [.s 5 1]⟩), (13, ⟨[0, 1, 5, 6, 8, 9], [.s 5 1], [5, 8], [.s 5 1]⟩), (18, ⟨[5, 8, 10], [.s 5 1], [5], [.s 5 1]⟩)], rt := ⟨[4], [.s 4 1], [], []⟩, sh := [.z 1] }
def QsO : Ann := { jn := [(1, (19, 7, 19))] }
def Qsc : Ann := {}
def QsY : Ann := { jn := [(5, (10, 11, 17))] }
noncomputable def T : Tld := { P := Tryz.prog, ann := [(3, An3), (8, An8), (9, An9), (10, QxR), (11, QzA), (12, Qxb), (13, Qxa), (14, QvT), (15, QuU), (18, Qwr), (23, QvM), (31, QwJ), (32, Qxi), (35, QzC), (52, Qzh), (56, QzG), (57, Qzx), (58, Qzt), (59, Qxu), (60, Qxk), (61, QtE), (62, Quo), (63, QvA), (64, Qql), (65, Quv), (66, Qog), (67, QwP), (68, Qy7), (69, Qzk), (70, QzM), (71, Qxy), (72, QvG), (73, Qzs), (74, Qwn), (75, QxK), (78, QwY), (80, Qyv), (84, Qzb), (86, QyF), (95, QzQ), (96, QyW), (97, Qws), (98, Qya), (99, QyN), (101, Qpl), (102, Qs8), (103, QpL), (113, QrB), (114, Qp8), (115, QmQ), (116, Qm7), (117, Qpo), (118, QpP), (119, Qlm), (120, QpS), (130, QrS), (133, Qs0), (134, Qsn), (135, Qo5), (136, Qs7), (137, QsM), (138, Qsv), (139, Qrl), (140, Qod), (141, QsD), (142, Qpi), (143, QsJ), (144, Qsm), (145, Qtd), (146, Qo9), (147, Qof), (152, Qsp), (158, QsW), (161, Qpm), (165, Qsd), (166, QsF), (167, Qr5), (168, QpB), (169, Qtb), (170, QsZ), (171, QrQ), (172, QrF), (176, Qsq), (182, QoG), (183, Qr3), (184, Qp2), (185, Qoa), (186, Qox), (187, Qp7), (188, QoB), (189, Qsi), (190, Qr0), (191, QrH), (213, QoN), (215, Qor), (216, QsG), (217, QpY), (218, Qso), (219, QmR), (221, Qpj), (222, Qr6), (234, QpO), (241, Qsb), (242, Qoy), (243, QrV), (244, Qr1), (245, QrO), (246, QrP), (247, QrR), (248, Qrx), (249, Qpt), (258, QoI), (259, Qol), (260, Qrn), (261, QpZ), (276, QsT), (278, QoE), (285, Qpf), (286, Qs9), (289, QpH), (290, QoP), (291, Qr9), (292, QoR), (293, Qsh), (294, Qpk), (295, Qsr), (296, QrI), (297, QrT), (298, Qr8), (299, QpQ), (300, QrW), (301, QrJ), (305, Qro), (322, Qsg), (325, Qs6), (326, QpN), (327, QmN), (328, QmU), (329, Qse), (330, QlA), (338, QsO), (339, Qsc), (347, QsY)], xt := xt, st := fun g => Nat.beq g 82, qt := fun g => Nat.beq g 220, pz := [(86, [.a [0, 8, 3, 3, 5, 4, 5, 4, 0]])], vt := fun g => Nat.beq g 291 || Nat.beq g 296, mt := fun _ _ _ => none }
theorem TP : T.P = Tryz.prog := _root_.id rfl
theorem TZ : T.pz = [(86, [.a [0, 8, 3, 3, 5, 4, 5, 4, 0]])] := _root_.id rfl
theorem QOd : decide ((0 : Int) ≤ 33) = true := _root_.id rfl
theorem QPv : decide ((0 : Int) ≤ 47) = true := _root_.id rfl
def eY := aI evT <| aI QIr <| aI @QLZ <| aI @Qls <| @VG
def eZ := aI evB <| aI evT <| aI tys <| aI QIr <| aI TP <| aI TZ <| aI (@QI1 T) <| aI (@QIe T) <| aI (@QKZ T) <| aI QOd <| aI QPv <| aI @VG <| @QKT T
theorem QhD (n : Nat) (x : Int) : CP T (n + 1) 277 [.nil, .i .i64 x] = (J8 x).map fun r => .own 1 (r.map QU) := by rw [QOc T n 277 _ (by kernel_rfl)]; rfl
theorem QNb : cI = QU := _root_.id rfl
theorem QDm (xs : List Int) : QbM (xs.map QU) = some xs := QqK xs
theorem QEO : T.st 82 = true := by kernel_rfl
theorem QBm : T.st 220 = false := by kernel_rfl
theorem QBX : T.qt 220 = true := by kernel_rfl
theorem QI6 : T.st 74 = false := by kernel_rfl
theorem QHT : T.qt 74 = false := by kernel_rfl
theorem QJo : T.wt 74 = true := by kernel_rfl
theorem QHH : T.vt 74 = false := by kernel_rfl
theorem QK1 : T.st 75 = false := by kernel_rfl
theorem QLh : T.qt 75 = false := by kernel_rfl
theorem QG9 : T.wt 75 = true := by kernel_rfl
theorem QIu : T.vt 75 = false := by kernel_rfl
theorem QKS : T.st 78 = false := by kernel_rfl
theorem QGj : T.qt 78 = false := by kernel_rfl
theorem QKd : T.wt 78 = true := by kernel_rfl
theorem QFJ : T.vt 78 = false := by kernel_rfl
theorem QGF : T.st 84 = false := by kernel_rfl
theorem QFe : T.qt 84 = false := by kernel_rfl
theorem QHQ : T.wt 84 = true := by kernel_rfl
theorem QFE : T.vt 84 = false := by kernel_rfl
theorem QFv : T.st 99 = false := by kernel_rfl
theorem QEZ : T.qt 99 = false := by kernel_rfl
theorem QFN : T.wt 99 = true := by kernel_rfl
theorem QIc : T.vt 99 = false := by kernel_rfl
theorem QDE : T.st 102 = false := by kernel_rfl
theorem QD2 : T.qt 102 = false := by kernel_rfl
theorem QCH : T.wt 102 = true := by kernel_rfl
theorem QCn : T.vt 102 = false := by kernel_rfl
theorem QDQ : T.st 103 = false := by kernel_rfl
theorem QCj : T.qt 103 = false := by kernel_rfl
theorem QCJ : T.wt 103 = true := by kernel_rfl
theorem QCT : T.vt 103 = false := by kernel_rfl
theorem QBt : T.st 158 = false := by kernel_rfl
theorem QCC : T.qt 158 = false := by kernel_rfl
theorem QCz : T.wt 158 = true := by kernel_rfl
theorem QCb : T.vt 158 = false := by kernel_rfl
theorem QDL : T.st 171 = false := by kernel_rfl
theorem QBG : T.qt 171 = false := by kernel_rfl
theorem QC5 : T.wt 171 = true := by kernel_rfl
theorem QDR : T.vt 171 = false := by kernel_rfl
theorem QEf : T.st 172 = false := by kernel_rfl
theorem QCc : T.qt 172 = false := by kernel_rfl
theorem QCa : T.wt 172 = true := by kernel_rfl
theorem QD4 : T.vt 172 = false := by kernel_rfl
theorem QCX : T.st 222 = false := by kernel_rfl
theorem QBf : T.qt 222 = false := by kernel_rfl
theorem QCS : T.wt 222 = true := by kernel_rfl
theorem QBu : T.vt 222 = false := by kernel_rfl
theorem QCu : T.st 248 = false := by kernel_rfl
theorem QCx : T.qt 248 = false := by kernel_rfl
theorem QBN : T.wt 248 = true := by kernel_rfl
theorem QCe : T.vt 248 = false := by kernel_rfl
theorem QDp : T.st 249 = false := by kernel_rfl
theorem QCY : T.qt 249 = false := by kernel_rfl
theorem QB3 : T.wt 249 = true := by kernel_rfl
theorem QEt : T.vt 249 = false := by kernel_rfl
theorem QC4 : T.st 291 = false := by kernel_rfl
theorem QBF : T.qt 291 = false := by kernel_rfl
theorem QBD : T.wt 291 = false := by kernel_rfl
theorem QEc : T.vt 291 = true := by kernel_rfl
theorem QDq : T.st 296 = false := by kernel_rfl
theorem QEo : T.qt 296 = false := by kernel_rfl
theorem QCA : T.wt 296 = false := by kernel_rfl
theorem QEl : T.vt 296 = true := by kernel_rfl
def srt := aI @QNb <| aI @QDm <| aI @QJ5 <| aI @QHV <| aI @QJ9 <| aI @QKV <| aI @QEO <| aI @QBm <| aI @QBX <| aI @QI6 <| aI @QHT <| aI @QJo <| aI @QHH <| aI @QK1 <| aI @QLh <| aI @QG9 <| aI @QIu <| aI @QKS <| aI @QGj <| aI @QKd <| aI @QFJ <| aI @QGF <| aI @QFe <| aI @QHQ <| aI @QFE <| aI @QFv <| aI @QEZ <| aI @QFN <| aI @QIc <| aI @QDE <| aI @QD2 <| aI @QCH <| aI @QCn <| aI @QDQ <| aI @QCj <| aI @QCJ <| aI @QCT <| aI @QBt <| aI @QCC <| aI @QCz <| aI @QCb <| aI @QDL <| aI @QBG <| aI @QC5 <| aI @QDR <| aI @QEf <| aI @QCc <| aI @QCa <| aI @QD4 <| aI @QCX <| aI @QBf <| aI @QCS <| aI @QBu <| aI @QCu <| aI @QCx <| aI @QBN <| aI @QCe <| aI @QDp <| aI @QCY <| aI @QB3 <| aI @QEt <| aI @QC4 <| aI @QBF <| aI @QBD <| aI @QEc <| aI @QDq <| aI @QEo <| aI @QCA @QEl
theorem Aa3 : T.at 3 = some An3 := by kernel_rfl
theorem Aa8 : T.at 8 = some An8 := by kernel_rfl
theorem Aa9 : T.at 9 = some An9 := by kernel_rfl
theorem QOE : T.at 10 = some QxR := by kernel_rfl
theorem QOY : T.at 11 = some QzA := by kernel_rfl
theorem QGg : T.at 12 = some Qxb := by kernel_rfl
theorem QFO : T.at 13 = some Qxa := by kernel_rfl
theorem QFV : T.at 14 = some QvT := by kernel_rfl
theorem QIV : T.at 15 = some QuU := by kernel_rfl
theorem QK4 : T.at 18 = some Qwr := by kernel_rfl
theorem QFr : T.at 23 = some QvM := by kernel_rfl
theorem QF3 : T.at 31 = some QwJ := by kernel_rfl
theorem QK8 : T.at 32 = some Qxi := by kernel_rfl
theorem QOR : T.at 35 = some QzC := by kernel_rfl
theorem QLI : T.at 52 = some Qzh := by kernel_rfl
theorem QLV : T.at 56 = some QzG := by kernel_rfl
theorem QOg : T.at 57 = some Qzx := by kernel_rfl
theorem QN8 : T.at 58 = some Qzt := by kernel_rfl
theorem QPy : T.at 59 = some Qxu := by kernel_rfl
theorem QJS : T.at 60 = some Qxk := by kernel_rfl
theorem QDH : T.at 61 = some QtE := by kernel_rfl
theorem QIG : T.at 62 = some Quo := by kernel_rfl
theorem QKD : T.at 63 = some QvA := by kernel_rfl
theorem Qzw : T.at 64 = some Qql := by kernel_rfl
theorem QFi : T.at 65 = some Quv := by kernel_rfl
theorem Qwv : T.at 66 = some Qog := by kernel_rfl
theorem QIM : T.at 67 = some QwP := by kernel_rfl
theorem QPm : T.at 68 = some Qy7 := by kernel_rfl
theorem QOs : T.at 69 = some Qzk := by kernel_rfl
theorem QOW : T.at 70 = some QzM := by kernel_rfl
theorem QNE : T.at 71 = some Qxy := by kernel_rfl
theorem QIx : T.at 72 = some QvG := by kernel_rfl
theorem QL5 : T.at 73 = some Qzs := by kernel_rfl
theorem QHv : T.at 74 = some Qwn := by kernel_rfl
theorem QMb : T.at 75 = some QxK := by kernel_rfl
theorem QGI : T.at 78 = some QwY := by kernel_rfl
theorem QMK : T.at 80 = some Qyv := by kernel_rfl
theorem QPB : T.at 84 = some Qzb := by kernel_rfl
theorem QOD : T.at 86 = some QyF := by kernel_rfl
theorem QOG : T.at 95 = some QzQ := by kernel_rfl
theorem QO3 : T.at 96 = some QyW := by kernel_rfl
theorem QIH : T.at 97 = some Qws := by kernel_rfl
theorem QMS : T.at 98 = some Qya := by kernel_rfl
theorem QPK : T.at 99 = some QyN := by kernel_rfl
theorem QAs : T.at 101 = some Qpl := by kernel_rfl
theorem QKa : T.at 102 = some Qs8 := by kernel_rfl
theorem QAk : T.at 103 = some QpL := by kernel_rfl
theorem QIz : T.at 113 = some QrB := by kernel_rfl
theorem QAi : T.at 114 = some Qp8 := by kernel_rfl
theorem Qu5 : T.at 115 = some QmQ := by kernel_rfl
theorem Qux : T.at 116 = some Qm7 := by kernel_rfl
theorem Qz4 : T.at 117 = some Qpo := by kernel_rfl
theorem Qz1 : T.at 118 = some QpP := by kernel_rfl
theorem QrY : T.at 119 = some Qlm := by kernel_rfl
theorem QAW : T.at 120 = some QpS := by kernel_rfl
theorem QGY : T.at 130 = some QrS := by kernel_rfl
theorem QHp : T.at 133 = some Qs0 := by kernel_rfl
theorem QG3 : T.at 134 = some Qsn := by kernel_rfl
theorem QAo : T.at 135 = some Qo5 := by kernel_rfl
theorem QG0 : T.at 136 = some Qs7 := by kernel_rfl
theorem QHq : T.at 137 = some QsM := by kernel_rfl
theorem QIy : T.at 138 = some Qsv := by kernel_rfl
theorem QKY : T.at 139 = some Qrl := by kernel_rfl
theorem QAC : T.at 140 = some Qod := by kernel_rfl
theorem QIh : T.at 141 = some QsD := by kernel_rfl
theorem QAd : T.at 142 = some Qpi := by kernel_rfl
theorem QJJ : T.at 143 = some QsJ := by kernel_rfl
theorem QFz : T.at 144 = some Qsm := by kernel_rfl
theorem QH5 : T.at 145 = some Qtd := by kernel_rfl
theorem QAD : T.at 146 = some Qo9 := by kernel_rfl
theorem Qz6 : T.at 147 = some Qof := by kernel_rfl
theorem QKB : T.at 152 = some Qsp := by kernel_rfl
theorem QJB : T.at 158 = some QsW := by kernel_rfl
theorem QAv : T.at 161 = some Qpm := by kernel_rfl
theorem QEu : T.at 165 = some Qsd := by kernel_rfl
theorem QJb : T.at 166 = some QsF := by kernel_rfl
theorem QLb : T.at 167 = some Qr5 := by kernel_rfl
theorem QA3 : T.at 168 = some QpB := by kernel_rfl
theorem QEE : T.at 169 = some Qtb := by kernel_rfl
theorem QET : T.at 170 = some QsZ := by kernel_rfl
theorem QLv : T.at 171 = some QrQ := by kernel_rfl
theorem QGe : T.at 172 = some QrF := by kernel_rfl
theorem QGV : T.at 176 = some Qsq := by kernel_rfl
theorem Qz5 : T.at 182 = some QoG := by kernel_rfl
theorem QHn : T.at 183 = some Qr3 := by kernel_rfl
theorem QAY : T.at 184 = some Qp2 := by kernel_rfl
theorem QAt : T.at 185 = some Qoa := by kernel_rfl
theorem QAA : T.at 186 = some Qox := by kernel_rfl
theorem QAJ : T.at 187 = some Qp7 := by kernel_rfl
theorem QzY : T.at 188 = some QoB := by kernel_rfl
theorem QIs : T.at 189 = some Qsi := by kernel_rfl
theorem QJq : T.at 190 = some Qr0 := by kernel_rfl
theorem QEI : T.at 191 = some QrH := by kernel_rfl
theorem QAn : T.at 213 = some QoN := by kernel_rfl
theorem QAL : T.at 215 = some Qor := by kernel_rfl
theorem QLp : T.at 216 = some QsG := by kernel_rfl
theorem QAf : T.at 217 = some QpY := by kernel_rfl
theorem QJi : T.at 218 = some Qso := by kernel_rfl
theorem QuI : T.at 219 = some QmR := by kernel_rfl
theorem QAg : T.at 221 = some Qpj := by kernel_rfl
theorem QES : T.at 222 = some Qr6 := by kernel_rfl
theorem QAQ : T.at 234 = some QpO := by kernel_rfl
theorem QF1 : T.at 241 = some Qsb := by kernel_rfl
theorem QAH : T.at 242 = some Qoy := by kernel_rfl
theorem QEJ : T.at 243 = some QrV := by kernel_rfl
theorem QFa : T.at 244 = some Qr1 := by kernel_rfl
theorem QGB : T.at 245 = some QrO := by kernel_rfl
theorem QHl : T.at 246 = some QrP := by kernel_rfl
theorem QFU : T.at 247 = some QrR := by kernel_rfl
theorem QKP : T.at 248 = some Qrx := by kernel_rfl
theorem Qz9 : T.at 249 = some Qpt := by kernel_rfl
theorem QAw : T.at 258 = some QoI := by kernel_rfl
theorem QA5 : T.at 259 = some Qol := by kernel_rfl
theorem QHX : T.at 260 = some Qrn := by kernel_rfl
theorem QAZ : T.at 261 = some QpZ := by kernel_rfl
theorem QE0 : T.at 276 = some QsT := by kernel_rfl
theorem QAa : T.at 278 = some QoE := by kernel_rfl
theorem QAN : T.at 285 = some Qpf := by kernel_rfl
theorem QKo : T.at 286 = some Qs9 := by kernel_rfl
theorem QA6 : T.at 289 = some QpH := by kernel_rfl
theorem QAI : T.at 290 = some QoP := by kernel_rfl
theorem QFu : T.at 291 = some Qr9 := by kernel_rfl
theorem QA1 : T.at 292 = some QoR := by kernel_rfl
theorem QIZ : T.at 293 = some Qsh := by kernel_rfl
theorem QAK : T.at 294 = some Qpk := by kernel_rfl
theorem QHh : T.at 295 = some Qsr := by kernel_rfl
theorem QIJ : T.at 296 = some QrI := by kernel_rfl
theorem QKF : T.at 297 = some QrT := by kernel_rfl
theorem QLu : T.at 298 = some Qr8 := by kernel_rfl
theorem QAU : T.at 299 = some QpQ := by kernel_rfl
theorem QE6 : T.at 300 = some QrW := by kernel_rfl
theorem QHY : T.at 301 = some QrJ := by kernel_rfl
theorem QFK : T.at 305 = some Qro := by kernel_rfl
theorem QFt : T.at 322 = some Qsg := by kernel_rfl
theorem QIC : T.at 325 = some Qs6 := by kernel_rfl
theorem QAz : T.at 326 = some QpN := by kernel_rfl
theorem Qvc : T.at 327 = some QmN := by kernel_rfl
theorem Qw5 : T.at 328 = some QmU := by kernel_rfl
theorem QJn : T.at 329 = some Qse := by kernel_rfl
theorem QrC : T.at 330 = some QlA := by kernel_rfl
theorem QE4 : T.at 338 = some QsO := by kernel_rfl
theorem QEw : T.at 339 = some Qsc := by kernel_rfl
theorem QGG : T.at 347 = some QsY := by kernel_rfl
end Go.Proofs.YtkbilciipmijjaaGreat
