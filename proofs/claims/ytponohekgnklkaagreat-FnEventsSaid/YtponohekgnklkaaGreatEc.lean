import Derived.Test.YtponohekgnklkaaGreatEvB
import Derived.Test.YtponohekgnklkaaGreatFn
import Derived.Test.YtponohekgnklkaaGreatProg
import Derived.KernelRfl
namespace Go.Proofs.YtponohekgnklkaaGreat
open Go Go.Proofs Go.Proofs.YtponohekgnklkaaGreat.Am
set_option maxHeartbeats 4000000
set_option linter.unusedVariables false
set_option linter.unusedSimpArgs false
set_option linter.defProp false
set_option maxRecDepth 100000
def VP (x : Int) : List AV := [.i .i64 x]
theorem QoX (x : Int) : VP x = [.i .i64 x] := _root_.id rfl
instance (x : Int) : EncR VP [.i .i64 x] x := ⟨rfl⟩
theorem QF1 (xs : List Int) : Qv (xs.map VP) = xs.map VP := Qbn (fun x => by simp only [QoX, VB, VQ]) xs
theorem QEj (xs : List Int) : Qt (xs.map VP) = true := Zq (fun x => by simp only [QoX, X8, AV.clean, Bool.and_self]) xs
theorem QGP {R : List (List AV)} {xs : List Int} (i : Int) [h : EncL VP R xs] : inb R i = inb xs i := by rw [h.eq, QpS]
theorem QEP {R : List (List AV)} {xs : List Int} (i : Int) [h : EncL VP R xs] (hi : inb xs i = true) : QR R i.toNat = VP (gt xs i) := by rw [h.eq, Qp3 xs i hi]
def Qdt (x : Int) : List AV := [.i .u8 x]
theorem Qse (x : Int) : Qdt x = [.i .u8 x] := _root_.id rfl
instance (x : Int) : EncR Qdt [.i .u8 x] x := ⟨rfl⟩
theorem QDK (xs : List Int) : Qv (xs.map Qdt) = xs.map Qdt := Qbn (fun x => by simp only [Qse, VB, VQ]) xs
theorem QDc (xs : List Int) : Qt (xs.map Qdt) = true := Zq (fun x => by simp only [Qse, X8, AV.clean, Bool.and_self]) xs
theorem QMi {R : List (List AV)} {xs : List Int} (i : Int) [h : EncL Qdt R xs] : inb R i = inb xs i := by rw [h.eq, QpS]
theorem QPv {R : List (List AV)} {xs : List Int} (i : Int) [h : EncL Qdt R xs] (hi : inb xs i = true) : QR R i.toNat = Qdt (gt xs i) := by rw [h.eq, Qp3 xs i hi]
def c_b (x : Bool) : List AV := [.b x]
theorem Qxy (x : Bool) : c_b x = [.b x] := _root_.id rfl
instance (x : Bool) : EncR c_b [.b x] x := ⟨rfl⟩
theorem QSk (xs : List Bool) : Qv (xs.map c_b) = xs.map c_b := Qbn (fun x => by simp only [Qxy, VB, VQ]) xs
theorem QTJ (xs : List Bool) : Qt (xs.map c_b) = true := Zq (fun x => by simp only [Qxy, X8, AV.clean, Bool.and_self]) xs
theorem QTi {R : List (List AV)} {xs : List Bool} (i : Int) [h : EncL c_b R xs] : inb R i = inb xs i := by rw [h.eq, QpS]
theorem QQt {R : List (List AV)} {xs : List Bool} (i : Int) [h : EncL c_b R xs] (hi : inb xs i = true) : QR R i.toNat = c_b (gt xs i) := by rw [h.eq, Qp3 xs i hi]
def c_s (x : List UInt8) : List AV := [.s x]
theorem QwW (x : List UInt8) : c_s x = [.s x] := _root_.id rfl
instance (x : List UInt8) : EncR c_s [.s x] x := ⟨rfl⟩
theorem QQX (xs : List (List UInt8)) : Qv (xs.map c_s) = xs.map c_s := Qbn (fun x => by simp only [QwW, VB, VQ]) xs
theorem QVw (xs : List (List UInt8)) : Qt (xs.map c_s) = true := Zq (fun x => by simp only [QwW, X8, AV.clean, Bool.and_self]) xs
theorem QSO {R : List (List AV)} {xs : List (List UInt8)} (i : Int) [h : EncL c_s R xs] : inb R i = inb xs i := by rw [h.eq, QpS]
theorem QUK {R : List (List AV)} {xs : List (List UInt8)} (i : Int) [h : EncL c_s R xs] (hi : inb xs i = true) : QR R i.toNat = c_s (gt xs i) := by rw [h.eq, Qp3 xs i hi]
def QK (x : l1Cur) : List AV := [.imm 1 (x.b.map Qdt), .i .i64 x.i, .i .i64 x.h]
theorem Qrm (x : l1Cur) : QK x = [.imm 1 (x.b.map Qdt), .i .i64 x.i, .i .i64 x.h] := _root_.id rfl
instance (yxi yxh) {R1 yxb} [H1 : EncL Qdt R1 yxb] : EncR QK [.imm 1 R1, .i .i64 yxi, .i .i64 yxh] (⟨yxb, yxi, yxh⟩ : l1Cur) := ⟨by obtain ⟨rfl⟩ := H1; rfl⟩
def QlT (x : l1Cur) : List AV := [.own 1 (x.b.map Qdt), .i .i64 x.i, .i .i64 x.h]
theorem Qj7 (x : l1Cur) : QlT x = [.own 1 (x.b.map Qdt), .i .i64 x.i, .i .i64 x.h] := _root_.id rfl
instance (yxi yxh) {R1 yxb} [H1 : EncL Qdt R1 yxb] : EncR QlT [.own 1 R1, .i .i64 yxi, .i .i64 yxh] (⟨yxb, yxi, yxh⟩ : l1Cur) := ⟨by obtain ⟨rfl⟩ := H1; rfl⟩
theorem QxR (xs : List l1Cur) : Qv (xs.map QlT) = xs.map QK := Qbn (fun x => by simp only [Qj7, Qrm, VB, VQ, QDK]) xs
theorem Qy1 (xs : List l1Cur) : Qt (xs.map QlT) = true := Zq (fun x => by simp only [Qj7, X8, AV.clean, Bool.and_self, QDc]) xs
theorem Qx1 (x : l1Cur) : (⟨x.b, x.i, x.h⟩ : l1Cur) = x := _root_.id rfl
def Qbm (x : Thing) : List AV := [.i .i64 x.Id, .i .i64 x.Kind, .i .i64 x.Colour, .i .i64 x.Size, .i .i64 x.Worth]
theorem QnA (x : Thing) : Qbm x = [.i .i64 x.Id, .i .i64 x.Kind, .i .i64 x.Colour, .i .i64 x.Size, .i .i64 x.Worth] := _root_.id rfl
instance (yxId yxKind yxColour yxSize yxWorth)  : EncR Qbm [.i .i64 yxId, .i .i64 yxKind, .i .i64 yxColour, .i .i64 yxSize, .i .i64 yxWorth] (⟨yxId, yxKind, yxColour, yxSize, yxWorth⟩ : Thing) := ⟨by rfl⟩
theorem Qxe (xs : List Thing) : Qv (xs.map Qbm) = xs.map Qbm := Qbn (fun x => by simp only [QnA, VB, VQ]) xs
theorem Qyp (xs : List Thing) : Qt (xs.map Qbm) = true := Zq (fun x => by simp only [QnA, X8, AV.clean, Bool.and_self]) xs
theorem QxQ (x : Thing) : (⟨x.Id, x.Kind, x.Colour, x.Size, x.Worth⟩ : Thing) = x := _root_.id rfl
def QE (x : Find) : List AV := [.i .i64 x.Thing.Id, .i .i64 x.Thing.Kind, .i .i64 x.Thing.Colour, .i .i64 x.Thing.Size, .i .i64 x.Thing.Worth, .i .i64 x.Place, .i .i64 x.At, .i .i64 x.Finder]
theorem QoV (x : Find) : QE x = [.i .i64 x.Thing.Id, .i .i64 x.Thing.Kind, .i .i64 x.Thing.Colour, .i .i64 x.Thing.Size, .i .i64 x.Thing.Worth, .i .i64 x.Place, .i .i64 x.At, .i .i64 x.Finder] := _root_.id rfl
instance (yxThingxId yxThingxKind yxThingxColour yxThingxSize yxThingxWorth yxPlace yxAt yxFinder)  : EncR QE [.i .i64 yxThingxId, .i .i64 yxThingxKind, .i .i64 yxThingxColour, .i .i64 yxThingxSize, .i .i64 yxThingxWorth, .i .i64 yxPlace, .i .i64 yxAt, .i .i64 yxFinder] (⟨⟨yxThingxId, yxThingxKind, yxThingxColour, yxThingxSize, yxThingxWorth⟩, yxPlace, yxAt, yxFinder⟩ : Find) := ⟨by rfl⟩
theorem Quy (xs : List Find) : Qv (xs.map QE) = xs.map QE := Qbn (fun x => by simp only [QoV, VB, VQ]) xs
theorem QlW (xs : List Find) : Qt (xs.map QE) = true := Zq (fun x => by simp only [QoV, X8, AV.clean, Bool.and_self]) xs
theorem QA5 (x : Find) : (⟨x.Thing, x.Place, x.At, x.Finder⟩ : Find) = x := _root_.id rfl
def Vp (x : Mark) : List AV := [.i .i64 x.Question, .i .i64 x.Answer]
theorem Qo8 (x : Mark) : Vp x = [.i .i64 x.Question, .i .i64 x.Answer] := _root_.id rfl
instance (yxQuestion yxAnswer)  : EncR Vp [.i .i64 yxQuestion, .i .i64 yxAnswer] (⟨yxQuestion, yxAnswer⟩ : Mark) := ⟨by rfl⟩
theorem Qpz (xs : List Mark) : Qv (xs.map Vp) = xs.map Vp := Qbn (fun x => by simp only [Qo8, VB, VQ]) xs
theorem QoZ (xs : List Mark) : Qt (xs.map Vp) = true := Zq (fun x => by simp only [Qo8, X8, AV.clean, Bool.and_self]) xs
theorem QzX (x : Mark) : (⟨x.Question, x.Answer⟩ : Mark) = x := _root_.id rfl
def Q4 (x : Secret) : List AV := [.i .i64 x.Thing, .imm 2 (x.Marks.map Vp), .i .i64 x.Salt]
theorem Qoa (x : Secret) : Q4 x = [.i .i64 x.Thing, .imm 2 (x.Marks.map Vp), .i .i64 x.Salt] := _root_.id rfl
instance (yxThing yxSalt) {R1 yxMarks} [H1 : EncL Vp R1 yxMarks] : EncR Q4 [.i .i64 yxThing, .imm 2 R1, .i .i64 yxSalt] (⟨yxThing, yxMarks, yxSalt⟩ : Secret) := ⟨by obtain ⟨rfl⟩ := H1; rfl⟩
def QB (x : Secret) : List AV := [.i .i64 x.Thing, .own 2 (x.Marks.map Vp), .i .i64 x.Salt]
theorem Qir (x : Secret) : QB x = [.i .i64 x.Thing, .own 2 (x.Marks.map Vp), .i .i64 x.Salt] := _root_.id rfl
instance (yxThing yxSalt) {R1 yxMarks} [H1 : EncL Vp R1 yxMarks] : EncR QB [.i .i64 yxThing, .own 2 R1, .i .i64 yxSalt] (⟨yxThing, yxMarks, yxSalt⟩ : Secret) := ⟨by obtain ⟨rfl⟩ := H1; rfl⟩
theorem Qn2 (xs : List Secret) : Qv (xs.map QB) = xs.map Q4 := Qbn (fun x => by simp only [Qir, Qoa, VB, VQ, Qpz]) xs
theorem Qhd (xs : List Secret) : Qt (xs.map QB) = true := Zq (fun x => by simp only [Qir, X8, AV.clean, Bool.and_self, QoZ]) xs
theorem QvQ (x : Secret) : (⟨x.Thing, x.Marks, x.Salt⟩ : Secret) = x := _root_.id rfl
def Qj (x : Claim) : List AV := [.i .i64 x.Id, .i .i64 x.Who, .i .i64 x.Thing, .i .i64 x.At, .i .i64 x.State]
theorem Qmd (x : Claim) : Qj x = [.i .i64 x.Id, .i .i64 x.Who, .i .i64 x.Thing, .i .i64 x.At, .i .i64 x.State] := _root_.id rfl
instance (yxId yxWho yxThing yxAt yxState)  : EncR Qj [.i .i64 yxId, .i .i64 yxWho, .i .i64 yxThing, .i .i64 yxAt, .i .i64 yxState] (⟨yxId, yxWho, yxThing, yxAt, yxState⟩ : Claim) := ⟨by rfl⟩
theorem Qqr (xs : List Claim) : Qv (xs.map Qj) = xs.map Qj := Qbn (fun x => by simp only [Qmd, VB, VQ]) xs
theorem Qjp (xs : List Claim) : Qt (xs.map Qj) = true := Zq (fun x => by simp only [Qmd, X8, AV.clean, Bool.and_self]) xs
theorem QyN (x : Claim) : (⟨x.Id, x.Who, x.Thing, x.At, x.State⟩ : Claim) = x := _root_.id rfl
def QS (x : Trial) : List AV := [.i .i64 x.Claim, .i .i64 x.Asked, .i .i64 x.Right, .i .i64 x.Wrong]
theorem Qmo (x : Trial) : QS x = [.i .i64 x.Claim, .i .i64 x.Asked, .i .i64 x.Right, .i .i64 x.Wrong] := _root_.id rfl
instance (yxClaim yxAsked yxRight yxWrong)  : EncR QS [.i .i64 yxClaim, .i .i64 yxAsked, .i .i64 yxRight, .i .i64 yxWrong] (⟨yxClaim, yxAsked, yxRight, yxWrong⟩ : Trial) := ⟨by rfl⟩
theorem QqG (xs : List Trial) : Qv (xs.map QS) = xs.map QS := Qbn (fun x => by simp only [Qmo, VB, VQ]) xs
theorem Qjt (xs : List Trial) : Qt (xs.map QS) = true := Zq (fun x => by simp only [Qmo, X8, AV.clean, Bool.and_self]) xs
theorem Qx0 (x : Trial) : (⟨x.Claim, x.Asked, x.Right, x.Wrong⟩ : Trial) = x := _root_.id rfl
def QX (x : Slot) : List AV := [.i .i64 x.Id, .i .i64 x.Size, .i .i64 x.Thing]
theorem QpM (x : Slot) : QX x = [.i .i64 x.Id, .i .i64 x.Size, .i .i64 x.Thing] := _root_.id rfl
instance (yxId yxSize yxThing)  : EncR QX [.i .i64 yxId, .i .i64 yxSize, .i .i64 yxThing] (⟨yxId, yxSize, yxThing⟩ : Slot) := ⟨by rfl⟩
theorem QuY (xs : List Slot) : Qv (xs.map QX) = xs.map QX := Qbn (fun x => by simp only [QpM, VB, VQ]) xs
theorem Qt7 (xs : List Slot) : Qt (xs.map QX) = true := Zq (fun x => by simp only [QpM, X8, AV.clean, Bool.and_self]) xs
theorem QCE (x : Slot) : (⟨x.Id, x.Size, x.Thing⟩ : Slot) = x := _root_.id rfl
def Vv (x : Hand) : List AV := [.i .i64 x.Thing, .i .i64 x.Holder, .i .i64 x.Who, .i .i64 x.At, .i .i64 x.Seal]
theorem Qpu (x : Hand) : Vv x = [.i .i64 x.Thing, .i .i64 x.Holder, .i .i64 x.Who, .i .i64 x.At, .i .i64 x.Seal] := _root_.id rfl
instance (yxThing yxHolder yxWho yxAt yxSeal)  : EncR Vv [.i .i64 yxThing, .i .i64 yxHolder, .i .i64 yxWho, .i .i64 yxAt, .i .i64 yxSeal] (⟨yxThing, yxHolder, yxWho, yxAt, yxSeal⟩ : Hand) := ⟨by rfl⟩
theorem Qux (xs : List Hand) : Qv (xs.map Vv) = xs.map Vv := Qbn (fun x => by simp only [Qpu, VB, VQ]) xs
theorem QtC (xs : List Hand) : Qt (xs.map Vv) = true := Zq (fun x => by simp only [Qpu, X8, AV.clean, Bool.and_self]) xs
theorem QAV (x : Hand) : (⟨x.Thing, x.Holder, x.Who, x.At, x.Seal⟩ : Hand) = x := _root_.id rfl
def Vk (x : Entry) : List AV := [.i .i64 x.From, .i .i64 x.To, .i .i64 x.Cents, .i .i64 x.At]
theorem Qmi (x : Entry) : Vk x = [.i .i64 x.From, .i .i64 x.To, .i .i64 x.Cents, .i .i64 x.At] := _root_.id rfl
instance (yxFrom yxTo yxCents yxAt)  : EncR Vk [.i .i64 yxFrom, .i .i64 yxTo, .i .i64 yxCents, .i .i64 yxAt] (⟨yxFrom, yxTo, yxCents, yxAt⟩ : Entry) := ⟨by rfl⟩
theorem QpP (xs : List Entry) : Qv (xs.map Vk) = xs.map Vk := Qbn (fun x => by simp only [Qmi, VB, VQ]) xs
theorem Qrf (xs : List Entry) : Qt (xs.map Vk) = true := Zq (fun x => by simp only [Qmi, X8, AV.clean, Bool.and_self]) xs
theorem Qy5 (x : Entry) : (⟨x.From, x.To, x.Cents, x.At⟩ : Entry) = x := _root_.id rfl
def QV (x : House) : List AV := [.i .i64 x.No, .imm 8 (x.Finds.map QE), .imm 3 (x.Secrets.map Q4), .imm 3 (x.Slots.map QX), .imm 5 (x.Claims.map Qj), .imm 4 (x.Trials.map QS), .imm 5 (x.Chain.map Vv), .imm 4 (x.Book.map Vk), .i .i64 x.Now]
theorem QrW (x : House) : QV x = [.i .i64 x.No, .imm 8 (x.Finds.map QE), .imm 3 (x.Secrets.map Q4), .imm 3 (x.Slots.map QX), .imm 5 (x.Claims.map Qj), .imm 4 (x.Trials.map QS), .imm 5 (x.Chain.map Vv), .imm 4 (x.Book.map Vk), .i .i64 x.Now] := _root_.id rfl
instance (yxNo yxNow) {R1 yxFinds R2 yxSecrets R3 yxSlots R4 yxClaims R5 yxTrials R6 yxChain R7 yxBook} [H1 : EncL QE R1 yxFinds] [H2 : EncL Q4 R2 yxSecrets] [H3 : EncL QX R3 yxSlots] [H4 : EncL Qj R4 yxClaims] [H5 : EncL QS R5 yxTrials] [H6 : EncL Vv R6 yxChain] [H7 : EncL Vk R7 yxBook] : EncR QV [.i .i64 yxNo, .imm 8 R1, .imm 3 R2, .imm 3 R3, .imm 5 R4, .imm 4 R5, .imm 5 R6, .imm 4 R7, .i .i64 yxNow] (⟨yxNo, yxFinds, yxSecrets, yxSlots, yxClaims, yxTrials, yxChain, yxBook, yxNow⟩ : House) := ⟨by obtain ⟨rfl⟩ := H1; obtain ⟨rfl⟩ := H2; obtain ⟨rfl⟩ := H3; obtain ⟨rfl⟩ := H4; obtain ⟨rfl⟩ := H5; obtain ⟨rfl⟩ := H6; obtain ⟨rfl⟩ := H7; rfl⟩
def VU (x : House) : List AV := [.i .i64 x.No, .own 8 (x.Finds.map QE), .own 3 (x.Secrets.map QB), .own 3 (x.Slots.map QX), .own 5 (x.Claims.map Qj), .own 4 (x.Trials.map QS), .own 5 (x.Chain.map Vv), .own 4 (x.Book.map Vk), .i .i64 x.Now]
theorem QkM (x : House) : VU x = [.i .i64 x.No, .own 8 (x.Finds.map QE), .own 3 (x.Secrets.map QB), .own 3 (x.Slots.map QX), .own 5 (x.Claims.map Qj), .own 4 (x.Trials.map QS), .own 5 (x.Chain.map Vv), .own 4 (x.Book.map Vk), .i .i64 x.Now] := _root_.id rfl
instance (yxNo yxNow) {R1 yxFinds R2 yxSecrets R3 yxSlots R4 yxClaims R5 yxTrials R6 yxChain R7 yxBook} [H1 : EncL QE R1 yxFinds] [H2 : EncL QB R2 yxSecrets] [H3 : EncL QX R3 yxSlots] [H4 : EncL Qj R4 yxClaims] [H5 : EncL QS R5 yxTrials] [H6 : EncL Vv R6 yxChain] [H7 : EncL Vk R7 yxBook] : EncR VU [.i .i64 yxNo, .own 8 R1, .own 3 R2, .own 3 R3, .own 5 R4, .own 4 R5, .own 5 R6, .own 4 R7, .i .i64 yxNow] (⟨yxNo, yxFinds, yxSecrets, yxSlots, yxClaims, yxTrials, yxChain, yxBook, yxNow⟩ : House) := ⟨by obtain ⟨rfl⟩ := H1; obtain ⟨rfl⟩ := H2; obtain ⟨rfl⟩ := H3; obtain ⟨rfl⟩ := H4; obtain ⟨rfl⟩ := H5; obtain ⟨rfl⟩ := H6; obtain ⟨rfl⟩ := H7; rfl⟩
theorem QwD (xs : List House) : Qv (xs.map VU) = xs.map QV := Qbn (fun x => by simp only [QkM, QrW, VB, VQ, Qqr, QpP, Quy, Qux, Qn2, QuY, QqG]) xs
theorem Qxu (xs : List House) : Qt (xs.map VU) = true := Zq (fun x => by simp only [QkM, X8, AV.clean, Bool.and_self, Qjp, Qrf, QlW, QtC, Qhd, Qt7, Qjt]) xs
theorem QxH (x : House) : (⟨x.No, x.Finds, x.Secrets, x.Slots, x.Claims, x.Trials, x.Chain, x.Book, x.Now⟩ : House) = x := _root_.id rfl
def Ju (x : Bid) : List AV := [.i .i64 x.Who, .i .i64 x.Cents, .i .i64 x.Seal]
theorem Qsq (x : Bid) : Ju x = [.i .i64 x.Who, .i .i64 x.Cents, .i .i64 x.Seal] := _root_.id rfl
instance (yxWho yxCents yxSeal)  : EncR Ju [.i .i64 yxWho, .i .i64 yxCents, .i .i64 yxSeal] (⟨yxWho, yxCents, yxSeal⟩ : Bid) := ⟨by rfl⟩
theorem Qw2 (xs : List Bid) : Qv (xs.map Ju) = xs.map Ju := Qbn (fun x => by simp only [Qsq, VB, VQ]) xs
theorem QyW (xs : List Bid) : Qt (xs.map Ju) = true := Zq (fun x => by simp only [Qsq, X8, AV.clean, Bool.and_self]) xs
theorem QHe (x : Bid) : (⟨x.Who, x.Cents, x.Seal⟩ : Bid) = x := _root_.id rfl
def QfW (x : Event) : List AV := [.i .i64 x.Kind, .i .i64 x.Find.Thing.Id, .i .i64 x.Find.Thing.Kind, .i .i64 x.Find.Thing.Colour, .i .i64 x.Find.Thing.Size, .i .i64 x.Find.Thing.Worth, .i .i64 x.Find.Place, .i .i64 x.Find.At, .i .i64 x.Find.Finder, .imm 2 (x.Marks.map Vp), .i .i64 x.Id, .i .i64 x.Who, .i .i64 x.N, .imm 3 (x.Bids.map Ju)]
theorem Qqg (x : Event) : QfW x = [.i .i64 x.Kind, .i .i64 x.Find.Thing.Id, .i .i64 x.Find.Thing.Kind, .i .i64 x.Find.Thing.Colour, .i .i64 x.Find.Thing.Size, .i .i64 x.Find.Thing.Worth, .i .i64 x.Find.Place, .i .i64 x.Find.At, .i .i64 x.Find.Finder, .imm 2 (x.Marks.map Vp), .i .i64 x.Id, .i .i64 x.Who, .i .i64 x.N, .imm 3 (x.Bids.map Ju)] := _root_.id rfl
instance (yxKind yxFindxThingxId yxFindxThingxKind yxFindxThingxColour yxFindxThingxSize yxFindxThingxWorth yxFindxPlace yxFindxAt yxFindxFinder yxId yxWho yxN) {R1 yxMarks R2 yxBids} [H1 : EncL Vp R1 yxMarks] [H2 : EncL Ju R2 yxBids] : EncR QfW [.i .i64 yxKind, .i .i64 yxFindxThingxId, .i .i64 yxFindxThingxKind, .i .i64 yxFindxThingxColour, .i .i64 yxFindxThingxSize, .i .i64 yxFindxThingxWorth, .i .i64 yxFindxPlace, .i .i64 yxFindxAt, .i .i64 yxFindxFinder, .imm 2 R1, .i .i64 yxId, .i .i64 yxWho, .i .i64 yxN, .imm 3 R2] (⟨yxKind, ⟨⟨yxFindxThingxId, yxFindxThingxKind, yxFindxThingxColour, yxFindxThingxSize, yxFindxThingxWorth⟩, yxFindxPlace, yxFindxAt, yxFindxFinder⟩, yxMarks, yxId, yxWho, yxN, yxBids⟩ : Event) := ⟨by obtain ⟨rfl⟩ := H1; obtain ⟨rfl⟩ := H2; rfl⟩
def Qcx (x : Event) : List AV := [.i .i64 x.Kind, .i .i64 x.Find.Thing.Id, .i .i64 x.Find.Thing.Kind, .i .i64 x.Find.Thing.Colour, .i .i64 x.Find.Thing.Size, .i .i64 x.Find.Thing.Worth, .i .i64 x.Find.Place, .i .i64 x.Find.At, .i .i64 x.Find.Finder, .own 2 (x.Marks.map Vp), .i .i64 x.Id, .i .i64 x.Who, .i .i64 x.N, .own 3 (x.Bids.map Ju)]
theorem QkE (x : Event) : Qcx x = [.i .i64 x.Kind, .i .i64 x.Find.Thing.Id, .i .i64 x.Find.Thing.Kind, .i .i64 x.Find.Thing.Colour, .i .i64 x.Find.Thing.Size, .i .i64 x.Find.Thing.Worth, .i .i64 x.Find.Place, .i .i64 x.Find.At, .i .i64 x.Find.Finder, .own 2 (x.Marks.map Vp), .i .i64 x.Id, .i .i64 x.Who, .i .i64 x.N, .own 3 (x.Bids.map Ju)] := _root_.id rfl
instance (yxKind yxFindxThingxId yxFindxThingxKind yxFindxThingxColour yxFindxThingxSize yxFindxThingxWorth yxFindxPlace yxFindxAt yxFindxFinder yxId yxWho yxN) {R1 yxMarks R2 yxBids} [H1 : EncL Vp R1 yxMarks] [H2 : EncL Ju R2 yxBids] : EncR Qcx [.i .i64 yxKind, .i .i64 yxFindxThingxId, .i .i64 yxFindxThingxKind, .i .i64 yxFindxThingxColour, .i .i64 yxFindxThingxSize, .i .i64 yxFindxThingxWorth, .i .i64 yxFindxPlace, .i .i64 yxFindxAt, .i .i64 yxFindxFinder, .own 2 R1, .i .i64 yxId, .i .i64 yxWho, .i .i64 yxN, .own 3 R2] (⟨yxKind, ⟨⟨yxFindxThingxId, yxFindxThingxKind, yxFindxThingxColour, yxFindxThingxSize, yxFindxThingxWorth⟩, yxFindxPlace, yxFindxAt, yxFindxFinder⟩, yxMarks, yxId, yxWho, yxN, yxBids⟩ : Event) := ⟨by obtain ⟨rfl⟩ := H1; obtain ⟨rfl⟩ := H2; rfl⟩
theorem QwO (xs : List Event) : Qv (xs.map Qcx) = xs.map QfW := Qbn (fun x => by simp only [QkE, Qqg, VB, VQ, Qw2, Qpz]) xs
theorem QwA (xs : List Event) : Qt (xs.map Qcx) = true := Zq (fun x => by simp only [QkE, X8, AV.clean, Bool.and_self, QyW, QoZ]) xs
theorem Qyh (x : Event) : (⟨x.Kind, x.Find, x.Marks, x.Id, x.Who, x.N, x.Bids⟩ : Event) = x := _root_.id rfl
def QkG (x : Share) : List AV := [.i .i64 x.Who, .i .i64 x.Cents]
theorem Qnr (x : Share) : QkG x = [.i .i64 x.Who, .i .i64 x.Cents] := _root_.id rfl
instance (yxWho yxCents)  : EncR QkG [.i .i64 yxWho, .i .i64 yxCents] (⟨yxWho, yxCents⟩ : Share) := ⟨by rfl⟩
theorem QwX (xs : List Share) : Qv (xs.map QkG) = xs.map QkG := Qbn (fun x => by simp only [Qnr, VB, VQ]) xs
theorem QyZ (xs : List Share) : Qt (xs.map QkG) = true := Zq (fun x => by simp only [Qnr, X8, AV.clean, Bool.and_self]) xs
theorem Qzm (x : Share) : (⟨x.Who, x.Cents⟩ : Share) = x := _root_.id rfl
def QP6 := aI @QoX <| aI @QF1 <| aI @QEj <| aI @QGP <| aI @QEP <| aI @Qse <| aI @QDK <| aI @QDc <| aI @QMi <| aI @QPv <| aI @Qxy <| aI @QSk <| aI @QTJ <| aI @QTi <| aI @QQt <| aI @QwW <| aI @QQX <| aI @QVw <| aI @QSO <| aI @QUK <| aI @Qrm <| aI @QxR <| aI @Qy1 <| aI @Qx1 <| aI @Qj7 <| aI @QnA <| aI @Qxe <| aI @Qyp <| aI @QxQ <| aI @QoV <| aI @Quy <| aI @QlW <| aI @QA5 <| aI @Qo8 <| aI @Qpz <| aI @QoZ <| aI @QzX <| aI @Qoa <| aI @Qn2 <| aI @Qhd <| aI @QvQ <| aI @Qir <| aI @Qmd <| aI @Qqr <| aI @Qjp <| aI @QyN <| aI @Qmo <| aI @QqG <| aI @Qjt <| aI @Qx0 <| aI @QpM <| aI @QuY <| aI @Qt7 <| aI @QCE <| aI @Qpu <| aI @Qux <| aI @QtC <| aI @QAV <| aI @Qmi <| aI @QpP <| aI @Qrf <| aI @Qy5 <| aI @QrW <| aI @QwD <| aI @Qxu <| aI @QxH <| aI @QkM <| aI @Qsq <| aI @Qw2 <| aI @QyW <| aI @QHe <| aI @Qqg <| aI @QwO <| aI @QwA <| aI @Qyh <| aI @QkE <| aI @Qnr <| aI @QwX <| aI @QyZ <| aI @Qzm <| aI @Qv9 <| aI @Qvr <| aI @Qvf <| aI @Qr5 <| aI @Qr9 <| aI @Qv0 @QsE
theorem tys : bsl Tryz.prog 5 = false ∧ QeV Tryz.prog 24 = true ∧ QeV Tryz.prog 26 = true ∧ QeV Tryz.prog 27 = true ∧ QeV Tryz.prog 28 = true ∧ QeV Tryz.prog 29 = true ∧ QeV Tryz.prog 30 = true ∧ QeV Tryz.prog 41 = true ∧ QeV Tryz.prog 49 = true ∧ Qeo Tryz.prog 120 = [0] ∧ Qeo Tryz.prog 161 = [0, 0] ∧ Qeo Tryz.prog 190 = [0] ∧ Qeo Tryz.prog 24 = [0, 0, 0, 0, 0, 0, 0, 0] ∧ Qeo Tryz.prog 25 = [0, 2, 0] ∧ Qeo Tryz.prog 26 = [0, 0, 0] ∧ Qeo Tryz.prog 27 = [0, 0, 0, 0, 0] ∧ Qeo Tryz.prog 28 = [0, 0, 0, 0] ∧ Qeo Tryz.prog 29 = [0, 0, 0, 0, 0] ∧ Qeo Tryz.prog 30 = [0, 0, 0, 0] ∧ Qeo Tryz.prog 33 = [0, 0, 0, 0, 0, 0, 0, 0, 0, 2, 0, 0, 0, 3] ∧ Qeo Tryz.prog 41 = [0, 0] ∧ Qeo Tryz.prog 49 = [0, 0, 0] ∧ tb Tryz.prog 115 = some 40 ∧ tb Tryz.prog 185 = some 24 ∧ tb Tryz.prog 3 = some 8 ∧ tb Tryz.prog 48 = some 64 ∧ tb Tryz.prog 51 = some 144 ∧ tb Tryz.prog 74 = some 24 ∧ tb Tryz.prog 77 = some 40 ∧ tb Tryz.prog 80 = some 32 ∧ tb Tryz.prog 83 = some 40 ∧ tb Tryz.prog 86 = some 32 ∧ tb Tryz.prog 91 = some 16 ∧ tbd Tryz.prog 100 = .arr [.s [], .s [], .s [], .s [], .s [], .s [], .s []] 1 ∧ tbd Tryz.prog 102 = .st [.nil, .i .i64 0, .i .i64 0] [(0, 1), (1, 1), (2, 1)] ∧ tbd Tryz.prog 115 = .st [.i .i64 0, .nil, .i .i64 0] [(0, 1), (1, 1), (2, 1)] ∧ tbd Tryz.prog 164 = .st [.i .i64 0, .i .i64 0] [(0, 1), (1, 1)] ∧ tbd Tryz.prog 185 = .st [.i .i64 0, .i .i64 0, .i .i64 0] [(0, 1), (1, 1), (2, 1)] ∧ tbd Tryz.prog 32 = .st [.i .i64 0, .nil, .nil, .nil, .nil, .nil, .nil, .nil, .i .i64 0] [(0, 1), (1, 1), (2, 1), (3, 1), (4, 1), (5, 1), (6, 1), (7, 1), (8, 1)] ∧ tbd Tryz.prog 46 = .st [.i .i64 0, .i .i64 0, .i .i64 0, .i .i64 0, .i .i64 0] [(0, 1), (1, 1), (2, 1), (3, 1), (4, 1)] ∧ tbd Tryz.prog 48 = .st [.i .i64 0, .i .i64 0, .i .i64 0, .i .i64 0, .i .i64 0, .i .i64 0, .i .i64 0, .i .i64 0] [(0, 5), (5, 1), (6, 1), (7, 1)] ∧ tbd Tryz.prog 51 = .st [.i .i64 0, .i .i64 0, .i .i64 0, .i .i64 0, .i .i64 0, .i .i64 0, .i .i64 0, .i .i64 0, .i .i64 0, .nil, .i .i64 0, .i .i64 0, .i .i64 0, .nil] [(0, 1), (1, 8), (9, 1), (10, 1), (11, 1), (12, 1), (13, 1)] ∧ tbd Tryz.prog 74 = .st [.i .i64 0, .i .i64 0, .i .i64 0] [(0, 1), (1, 1), (2, 1)] ∧ tbd Tryz.prog 77 = .st [.i .i64 0, .i .i64 0, .i .i64 0, .i .i64 0, .i .i64 0] [(0, 1), (1, 1), (2, 1), (3, 1), (4, 1)] ∧ tbd Tryz.prog 80 = .st [.i .i64 0, .i .i64 0, .i .i64 0, .i .i64 0] [(0, 1), (1, 1), (2, 1), (3, 1)] ∧ tbd Tryz.prog 83 = .st [.i .i64 0, .i .i64 0, .i .i64 0, .i .i64 0, .i .i64 0] [(0, 1), (1, 1), (2, 1), (3, 1), (4, 1)] ∧ tbd Tryz.prog 86 = .st [.i .i64 0, .i .i64 0, .i .i64 0, .i .i64 0] [(0, 1), (1, 1), (2, 1), (3, 1)] ∧ tbd Tryz.prog 91 = .st [.i .i64 0, .i .i64 0] [(0, 1), (1, 1)] ∧ QfK Tryz.prog 4 = some [.t] ∧ QfK Tryz.prog 48 = some [.i, .i, .i, .i, .i, .i, .i, .i] ∧ QfK Tryz.prog 74 = some [.i, .i, .i] ∧ QfK Tryz.prog 77 = some [.i, .i, .i, .i, .i] ∧ QfK Tryz.prog 80 = some [.i, .i, .i, .i] ∧ QfK Tryz.prog 83 = some [.i, .i, .i, .i, .i] ∧ QfK Tryz.prog 86 = some [.i, .i, .i, .i] ∧ QfK Tryz.prog 91 = some [.i, .i] ∧ tfo Tryz.prog 102 0 = some (0, .one) ∧ tfo Tryz.prog 102 1 = some (1, .one) ∧ tfo Tryz.prog 102 2 = some (2, .one) ∧ tfo Tryz.prog 115 0 = some (0, .one) ∧ tfo Tryz.prog 115 1 = some (1, .one) ∧ tfo Tryz.prog 115 2 = some (2, .one) ∧ tfo Tryz.prog 164 1 = some (1, .one) ∧ tfo Tryz.prog 185 0 = some (0, .one) ∧ tfo Tryz.prog 185 1 = some (1, .one) ∧ tfo Tryz.prog 185 2 = some (2, .one) ∧ tfo Tryz.prog 32 0 = some (0, .one) ∧ tfo Tryz.prog 32 1 = some (1, .one) ∧ tfo Tryz.prog 32 2 = some (2, .one) ∧ tfo Tryz.prog 32 3 = some (3, .one) ∧ tfo Tryz.prog 32 4 = some (4, .one) ∧ tfo Tryz.prog 32 5 = some (5, .one) ∧ tfo Tryz.prog 32 6 = some (6, .one) ∧ tfo Tryz.prog 32 7 = some (7, .one) ∧ tfo Tryz.prog 32 8 = some (8, .one) ∧ tfo Tryz.prog 46 0 = some (0, .one) ∧ tfo Tryz.prog 46 1 = some (1, .one) ∧ tfo Tryz.prog 46 2 = some (2, .one) ∧ tfo Tryz.prog 46 3 = some (3, .one) ∧ tfo Tryz.prog 46 4 = some (4, .one) ∧ tfo Tryz.prog 48 0 = some (0, .agg 5) ∧ tfo Tryz.prog 48 1 = some (5, .one) ∧ tfo Tryz.prog 48 2 = some (6, .one) ∧ tfo Tryz.prog 48 3 = some (7, .one) ∧ tfo Tryz.prog 51 0 = some (0, .one) ∧ tfo Tryz.prog 51 1 = some (1, .agg 8) ∧ tfo Tryz.prog 51 2 = some (9, .one) ∧ tfo Tryz.prog 51 3 = some (10, .one) ∧ tfo Tryz.prog 51 4 = some (11, .one) ∧ tfo Tryz.prog 51 5 = some (12, .one) ∧ tfo Tryz.prog 51 6 = some (13, .one) ∧ tfo Tryz.prog 74 0 = some (0, .one) ∧ tfo Tryz.prog 74 1 = some (1, .one) ∧ tfo Tryz.prog 74 2 = some (2, .one) ∧ tfo Tryz.prog 77 0 = some (0, .one) ∧ tfo Tryz.prog 77 1 = some (1, .one) ∧ tfo Tryz.prog 77 2 = some (2, .one) ∧ tfo Tryz.prog 77 3 = some (3, .one) ∧ tfo Tryz.prog 77 4 = some (4, .one) ∧ tfo Tryz.prog 80 0 = some (0, .one) ∧ tfo Tryz.prog 80 1 = some (1, .one) ∧ tfo Tryz.prog 80 2 = some (2, .one) ∧ tfo Tryz.prog 80 3 = some (3, .one) ∧ tfo Tryz.prog 83 0 = some (0, .one) ∧ tfo Tryz.prog 83 1 = some (1, .one) ∧ tfo Tryz.prog 83 2 = some (2, .one) ∧ tfo Tryz.prog 83 3 = some (3, .one) ∧ tfo Tryz.prog 83 4 = some (4, .one) ∧ tfo Tryz.prog 86 0 = some (0, .one) ∧ tfo Tryz.prog 86 1 = some (1, .one) ∧ tfo Tryz.prog 86 2 = some (2, .one) ∧ tfo Tryz.prog 86 3 = some (3, .one) ∧ tfo Tryz.prog 91 0 = some (0, .one) ∧ tfo Tryz.prog 91 1 = some (1, .one) ∧ ti Tryz.prog 100 = .arr 7 9 1 ∧ ti Tryz.prog 120 = .sl 3 1 ∧ ti Tryz.prog 161 = .sl 164 2 ∧ ti Tryz.prog 190 = .sl 4 1 ∧ ti Tryz.prog 22 = .sl 5 1 ∧ ti Tryz.prog 24 = .sl 48 8 ∧ ti Tryz.prog 25 = .sl 115 3 ∧ ti Tryz.prog 26 = .sl 74 3 ∧ ti Tryz.prog 27 = .sl 77 5 ∧ ti Tryz.prog 28 = .sl 80 4 ∧ ti Tryz.prog 29 = .sl 83 5 ∧ ti Tryz.prog 3 = .int .i64 ∧ ti Tryz.prog 30 = .sl 86 4 ∧ ti Tryz.prog 33 = .sl 51 14 ∧ ti Tryz.prog 41 = .sl 91 2 ∧ ti Tryz.prog 49 = .sl 185 3 ∧ tk Tryz.prog 100 = .agg 7 ∧ tk Tryz.prog 115 = .agg 3 ∧ tk Tryz.prog 185 = .agg 3 ∧ tk Tryz.prog 22 = .one ∧ tk Tryz.prog 24 = .one ∧ tk Tryz.prog 25 = .one ∧ tk Tryz.prog 26 = .one ∧ tk Tryz.prog 27 = .one ∧ tk Tryz.prog 28 = .one ∧ tk Tryz.prog 29 = .one ∧ tk Tryz.prog 3 = .one ∧ tk Tryz.prog 30 = .one ∧ tk Tryz.prog 32 = .agg 9 ∧ tk Tryz.prog 4 = .one ∧ tk Tryz.prog 41 = .one ∧ tk Tryz.prog 46 = .agg 5 ∧ tk Tryz.prog 48 = .agg 8 ∧ tk Tryz.prog 49 = .one ∧ tk Tryz.prog 5 = .one ∧ tk Tryz.prog 51 = .agg 14 ∧ tk Tryz.prog 74 = .agg 3 ∧ tk Tryz.prog 77 = .agg 5 ∧ tk Tryz.prog 80 = .agg 4 ∧ tk Tryz.prog 83 = .agg 5 ∧ tk Tryz.prog 86 = .agg 4 ∧ tk Tryz.prog 9 = .one ∧ tk Tryz.prog 91 = .agg 2 ∧ Qbo Tryz.prog 120 = true ∧ Qbo Tryz.prog 24 = true ∧ Qbo Tryz.prog 25 = true ∧ Qbo Tryz.prog 26 = true ∧ Qbo Tryz.prog 27 = true ∧ Qbo Tryz.prog 28 = true ∧ Qbo Tryz.prog 29 = true ∧ Qbo Tryz.prog 30 = true ∧ Qbo Tryz.prog 33 = true ∧ Qbo Tryz.prog 41 = true ∧ Qbo Tryz.prog 49 = true ∧ tok Tryz.prog 5 = true ∧ tse Tryz.prog 120 = some (3, 1, [.i .i64 0]) ∧ tse Tryz.prog 161 = some (164, 2, [.i .i64 0, .i .i64 0]) ∧ tse Tryz.prog 190 = some (4, 1, [.b false]) ∧ tse Tryz.prog 24 = some (48, 8, [.i .i64 0, .i .i64 0, .i .i64 0, .i .i64 0, .i .i64 0, .i .i64 0, .i .i64 0, .i .i64 0]) ∧ tse Tryz.prog 25 = some (115, 3, [.i .i64 0, .nil, .i .i64 0]) ∧ tse Tryz.prog 26 = some (74, 3, [.i .i64 0, .i .i64 0, .i .i64 0]) ∧ tse Tryz.prog 27 = some (77, 5, [.i .i64 0, .i .i64 0, .i .i64 0, .i .i64 0, .i .i64 0]) ∧ tse Tryz.prog 28 = some (80, 4, [.i .i64 0, .i .i64 0, .i .i64 0, .i .i64 0]) ∧ tse Tryz.prog 29 = some (83, 5, [.i .i64 0, .i .i64 0, .i .i64 0, .i .i64 0, .i .i64 0]) ∧ tse Tryz.prog 30 = some (86, 4, [.i .i64 0, .i .i64 0, .i .i64 0, .i .i64 0]) ∧ tse Tryz.prog 33 = some (51, 14, [.i .i64 0, .i .i64 0, .i .i64 0, .i .i64 0, .i .i64 0, .i .i64 0, .i .i64 0, .i .i64 0, .i .i64 0, .nil, .i .i64 0, .i .i64 0, .i .i64 0, .nil]) ∧ tse Tryz.prog 41 = some (91, 2, [.i .i64 0, .i .i64 0]) ∧ tse Tryz.prog 49 = some (185, 3, [.i .i64 0, .i .i64 0, .i .i64 0]) ∧ tzc Tryz.prog 100 = some [.s [], .s [], .s [], .s [], .s [], .s [], .s []] ∧ tzc Tryz.prog 115 = some [.i .i64 0, .nil, .i .i64 0] ∧ tzc Tryz.prog 185 = some [.i .i64 0, .i .i64 0, .i .i64 0] ∧ tzc Tryz.prog 32 = some [.i .i64 0, .nil, .nil, .nil, .nil, .nil, .nil, .nil, .i .i64 0] ∧ tzc Tryz.prog 46 = some [.i .i64 0, .i .i64 0, .i .i64 0, .i .i64 0, .i .i64 0] ∧ tzc Tryz.prog 48 = some [.i .i64 0, .i .i64 0, .i .i64 0, .i .i64 0, .i .i64 0, .i .i64 0, .i .i64 0, .i .i64 0] ∧ tzc Tryz.prog 51 = some [.i .i64 0, .i .i64 0, .i .i64 0, .i .i64 0, .i .i64 0, .i .i64 0, .i .i64 0, .i .i64 0, .i .i64 0, .nil, .i .i64 0, .i .i64 0, .i .i64 0, .nil] ∧ tzc Tryz.prog 74 = some [.i .i64 0, .i .i64 0, .i .i64 0] ∧ tzc Tryz.prog 77 = some [.i .i64 0, .i .i64 0, .i .i64 0, .i .i64 0, .i .i64 0] ∧ tzc Tryz.prog 80 = some [.i .i64 0, .i .i64 0, .i .i64 0, .i .i64 0] ∧ tzc Tryz.prog 83 = some [.i .i64 0, .i .i64 0, .i .i64 0, .i .i64 0, .i .i64 0] ∧ tzc Tryz.prog 86 = some [.i .i64 0, .i .i64 0, .i .i64 0, .i .i64 0] ∧ tzc Tryz.prog 91 = some [.i .i64 0, .i .i64 0] := by and_intros <;> kernel_rfl
def mt (g : Nat) (K : KS) (args : List AV) : Option AV := mtI [(96, (4, 32)), (145, (8, 64)), (146, (3, 40)), (151, (5, 40))] g K args
def An3 : Ann := { ord := [(6, [0, 1, 2, 3, 4, 5, 6, 7, 8, 10, 11, 12, 9, 13, 14, 15, 16, 17, 18, 19, 20, 21])], fz := [(6, [4])], jn := [(6, (50, 29, 50)), (14, (2, 75, 91))] }
def An4 : Ann := {}
def An5 : Ann := { ot := [(3, .one 1 (.alt (.one 0 (.one 2 (.one 3 (.one 4 (.done))))) (.one 2 (.one 0 (.one 3 (.one 4 (.done)))))))], av := [(1, [16]), (2, [17]), (3, [18])], sh := [.a [0, 8, 3, 3, 5, 4, 5, 4, 0], .z 14] }
def An6 : Ann := { lp := [(3, ⟨[4, 5, 10, 11, 12], [.s 4 0, .s 5 0, .c 1 1 8, .c 1 2 3, .c 1 3 3, .c 1 4 5, .c 1 5 4, .c 1 6 5, .c 1 7 4], [4, 5], [.s 4 0, .s 5 0, .c 1 1 8, .c 1 2 3, .c 1 3 3, .c 1 4 5, .c 1 5 4, .c 1 6 5, .c 1 7 4]⟩)], sh := [.a [0, 8, 3, 3, 5, 4, 5, 4, 0]] }
def An7 : Ann := {}
def An8 : Ann := { ord := [(1, [0, 1, 2, 3, 4, 5, 6, 7, 8, 9, 10, 11, 12, 13, 14, 15, 16, 17, 18, 19, 20, 21, 22, 23, 24, 25, 26, 27, 28, 29, 30, 31, 32, 33, 34, 35, 36, 37, 38, 39, 40, 41, 42, 44, 45, 43, 46, 47, 48, 49, 50, 51, 52, 53])], jn := [(1, (2, 3, 56))] }
def An9 : Ann := { jn := [(1, (4, 5, 66))] }
def QxA : Ann := { lp := [(3, ⟨[1, 5, 8, 9, 10], [], [5], []⟩)] }
def QBW : Ann := { av := [(1, [16]), (2, [37]), (3, [38])], sh := [.z 8, .z 2] }
def QxN : Ann := { lp := [(3, ⟨[1, 5, 9, 10, 11], [.s 5 14], [5], [.s 5 14]⟩)], sh := [.z 14] }
def QBM : Ann := { ot := [(6, .one 0 (.alt (.one 1 (.one 2 (.one 3 (.done)))) (.one 2 (.one 1 (.one 3 (.done))))))], av := [(1, [16]), (2, [40]), (3, [41]), (4, [42]), (5, [43])], sh := [.a [0, 8, 3, 3, 5, 4, 5, 4, 0], .a [0, 0, 0, 0, 0, 0, 0, 0, 0, 2, 0, 0, 0, 3]] }
def QCK : Ann := { sh := [.a [0, 8, 3, 3, 5, 4, 5, 4, 0], .n] }
def QBf : Ann := { jn := [(2, (10, 5, 10))] }
def QyK : Ann := { nr := some [.s 32 0], jn := [(3, (15, 8, 15))], lp := [(3, ⟨[0, 3, 4], [], [0, 3], []⟩)] }
def QBD : Ann := { nr := some [.r 0, .g 15 1 8, .g 15 2 3, .g 15 3 3, .g 15 4 5, .g 15 5 4, .g 15 6 5, .g 15 7 4], ak := [0], av := [(1, [43, 52])], sh := [.a [0, 8, 3, 3, 5, 4, 5, 4, 0]] }
def Qwy : Ann := { nr := some [.r 0, .s 26 14], ak := [0], av := [(1, [53]), (2, [43]), (5, [41])], lp := [(3, ⟨[0, 5, 6], [.s 0 0, .s 5 14], [0, 5], [.s 0 0, .s 5 14]⟩)], sh := [.z 14] }
def QCQ : Ann := { ord := [(1, [0, 1, 3, 4, 6, 7, 9, 10, 2, 12, 5, 8, 11, 13, 14, 15, 16, 17, 18, 19]), (2, [0, 1, 3, 4, 6, 7, 2, 9, 5, 8, 10, 11, 12, 13, 14])], sh := [.a [0, 8, 3, 3, 5, 4, 5, 4, 0]] }
def QBl : Ann := { jn := [(1, (6, 7, 15))] }
def Qyt : Ann := { jn := [(6, (34, 15, 34))], lp := [(4, ⟨[0, 8, 9, 10], [], [], []⟩)], rt := ⟨[2], [], [], []⟩ }
def Qy2 : Ann := { jn := [(6, (51, 15, 51))], lp := [(4, ⟨[0, 8, 9, 10], [], [], []⟩)], rt := ⟨[2], [], [], []⟩ }
def Qxb : Ann := { jn := [(6, (54, 15, 54))], lp := [(4, ⟨[0, 8, 9, 10], [], [], []⟩)], rt := ⟨[2], [], [], []⟩ }
def Qwi : Ann := { jn := [(6, (59, 17, 59)), (11, (82, 68, 82))], lp := [(4, ⟨[0, 10, 11, 12], [], [], []⟩), (9, ⟨[0, 4, 10, 11, 12, 62, 63, 64], [.s 4 0], [0, 10, 11, 12], []⟩)], rt := ⟨[2], [], [], []⟩ }
def Qx3 : Ann := { jn := [(7, (61, 17, 61)), (13, (83, 73, 83))], lp := [(5, ⟨[0, 3, 10, 11, 12], [], [], []⟩)], rt := ⟨[2], [], [], []⟩ }
def QwZ : Ann := { jn := [(6, (58, 15, 58))], lp := [(4, ⟨[0, 8, 9, 10], [], [], []⟩)], rt := ⟨[2], [], [], []⟩ }
def Qs4 : Ann := { ord := [(7, [0, 1, 2, 3, 4, 5, 6, 7, 8, 9, 10, 11, 12, 13, 14, 15, 18, 19, 20, 21, 16, 17, 22, 23, 24])], jn := [(7, (54, 30, 54)), (13, (73, 63, 73))], lp := [(5, ⟨[1, 3, 23, 24, 25], [.s 1 0, .s 3 1], [1, 3], [.s 1 0, .s 3 1]⟩), (11, ⟨[1, 3, 57, 58, 59], [.s 1 0, .s 3 1], [1, 3], [.s 1 0, .s 3 1]⟩), (17, ⟨[1, 75, 76, 77], [.s 1 0, .s 75 1], [], []⟩)], rt := ⟨[2], [], [], []⟩ }
def Qzq : Ann := { ord := [(7, [0, 1, 2, 3, 4, 5, 6, 7, 8, 9, 10, 11, 12, 13, 14, 15, 16, 17, 18, 19, 20, 21, 22, 24, 26, 27, 23, 25, 28, 29, 30])], jn := [(7, (56, 26, 56))], lp := [(4, ⟨[1, 14, 15, 16], [.s 1 0], [], []⟩)], rt := ⟨[2], [], [], []⟩ }
def Qqy : Ann := { lp := [(3, ⟨[1, 3, 13, 14, 15], [.s 1 0], [1, 3], [.s 1 0]⟩), (8, ⟨[1, 3, 25, 26, 27], [.s 1 0], [1, 3], [.s 1 0]⟩), (13, ⟨[1, 3, 37, 38, 39], [.s 1 0], [1, 3], [.s 1 0]⟩), (18, ⟨[3, 49, 50, 51], [], [3], []⟩)] }
def Qzn : Ann := { lp := [(4, ⟨[0, 1, 12, 13], [], [], []⟩)], rt := ⟨[4], [], [], []⟩ }
def QzV : Ann := {}
def Qy0 : Ann := { lp := [(4, ⟨[0, 1, 12, 13], [], [], []⟩)], rt := ⟨[4], [], [], []⟩ }
def Qyi : Ann := { lp := [(4, ⟨[0, 1, 12, 13], [], [], []⟩)], rt := ⟨[4], [], [], []⟩ }
def QzP : Ann := { lp := [(4, ⟨[0, 1, 12, 13], [], [], []⟩)], rt := ⟨[4], [], [], []⟩ }
def Qxp : Ann := { lp := [(4, ⟨[0, 1, 12, 13], [], [], []⟩)], rt := ⟨[4], [], [], []⟩ }
def QyH : Ann := { lp := [(4, ⟨[0, 1, 12, 13], [], [], []⟩)], rt := ⟨[4], [], [], []⟩ }
def QBL : Ann := { nr := some [.r 0, .s 52 8], ak := [0], av := [(1, [77]), (4, [43]), (5, [43]), (7, [78]), (9, [79]), (11, [80]), (13, [79])], sh := [.z 8] }
def QBZ : Ann := { nr := some [.r 0, .s 36 2], ak := [0], av := [(1, [81]), (4, [43]), (5, [43]), (7, [79]), (9, [79])], sh := [.z 2] }
def QB3 : Ann := { sh := [.z 2] }
def Qvc : Ann := { ot := [(18, .one 1 (.one 2 (.one 5 (.alt (.one 0 (.one 3 (.one 4 (.one 6 (.one 7 (.one 8 (.one 9 (.one 10 (.one 11 (.one 12 (.one 13 (.done)))))))))))) (.one 3 (.one 4 (.alt (.one 0 (.one 6 (.one 7 (.one 8 (.one 9 (.one 10 (.one 11 (.one 12 (.one 13 (.done)))))))))) (.one 6 (.one 0 (.one 7 (.one 8 (.one 9 (.one 10 (.one 11 (.one 12 (.one 13 (.done))))))))))))))))), (20, .one 1 (.alt (.one 0 (.one 2 (.one 3 (.one 4 (.one 5 (.one 6 (.one 7 (.one 8 (.done))))))))) (.one 2 (.alt (.one 0 (.one 3 (.one 4 (.one 5 (.one 6 (.one 7 (.one 8 (.done)))))))) (.one 3 (.one 0 (.one 4 (.one 5 (.one 6 (.one 7 (.one 8 (.done)))))))))))), (22, .one 1 (.alt (.one 0 (.one 2 (.one 3 (.one 4 (.one 5 (.one 6 (.one 7 (.one 8 (.one 9 (.done)))))))))) (.one 2 (.one 0 (.one 3 (.one 4 (.one 5 (.one 6 (.one 7 (.one 8 (.one 9 (.done))))))))))))], nr := some [.r 0, .g 94 1 8, .g 94 2 3, .g 94 3 3, .g 94 4 5, .g 94 5 4, .g 94 6 5, .g 94 7 4], ak := [0], av := [(1, [43, 52]), (4, [43]), (6, [82]), (7, [43]), (10, [43]), (11, [43]), (13, [42]), (14, [43]), (18, [43]), (20, [79]), (22, [43])], lp := [(4, ⟨[0, 2, 3, 5], [.s 0 0, .s 2 0, .s 3 0, .c 2 1 8, .c 2 2 3, .c 2 3 3, .c 2 4 5, .c 2 5 4, .c 2 6 5, .c 2 7 4], [0, 2, 3], [.s 0 0, .s 2 0, .s 3 0, .c 2 1 8, .c 2 2 3, .c 2 3 3, .c 2 4 5, .c 2 5 4, .c 2 6 5, .c 2 7 4]⟩), (8, ⟨[0, 2, 3, 6], [.s 0 0, .s 2 0, .s 3 0, .c 2 1 8, .c 2 2 3, .c 2 3 3, .c 2 4 5, .c 2 5 4, .c 2 6 5, .c 2 7 4], [0, 2, 3], [.s 0 0, .s 2 0, .s 3 0, .c 2 1 8, .c 2 2 3, .c 2 3 3, .c 2 4 5, .c 2 5 4, .c 2 6 5, .c 2 7 4]⟩)], sh := [.a [0, 8, 3, 3, 5, 4, 5, 4, 0]] }
def QAo : Ann := { nr := some [.r 0, .g 45 9 2, .g 45 13 3], ak := [0], av := [(1, [43, 79]), (4, [43, 53]), (6, [43]), (8, [88]), (10, [79])], sh := [.a [0, 0, 0, 0, 0, 0, 0, 0, 0, 2, 0, 0, 0, 3]] }
def QCh : Ann := { ak := [0], av := [(1, [43])] }
def QB7 : Ann := { ak := [0], av := [(4, [89]), (5, [89]), (6, [89]), (7, [89])] }
def QCy : Ann := { av := [(6, [94])], sh := [.a [0, 8, 3, 3, 5, 4, 5, 4, 0], .n] }
def QC4 : Ann := { ot := [(5, .one 0 (.one 1 (.one 2 (.one 3 (.one 4 (.one 6 (.one 7 (.alt (.one 5 (.one 8 (.one 9 (.one 10 (.one 11 (.done)))))) (.one 8 (.one 5 (.one 9 (.one 10 (.one 11 (.done))))))))))))))], av := [(5, [96]), (6, [94])], jn := [(3, (40, 27, 40))], sh := [.a [0, 8, 3, 3, 5, 4, 5, 4, 0], .n] }
def QC7 : Ann := { av := [(12, [94])], jn := [(3, (33, 18, 33))], sh := [.a [0, 8, 3, 3, 5, 4, 5, 4, 0], .n] }
def QCl : Ann := { av := [(12, [94])], jn := [(3, (30, 25, 30))], sh := [.a [0, 8, 3, 3, 5, 4, 5, 4, 0], .n] }
def QBS : Ann := { av := [(11, [94])], jn := [(3, (42, 28, 42)), (9, (80, 68, 80))], sh := [.a [0, 8, 3, 3, 5, 4, 5, 4, 0], .n] }
def Qz0 : Ann := { av := [(11, [94])], sh := [.a [0, 8, 3, 3, 5, 4, 5, 4, 0], .n] }
def QBN : Ann := { av := [(3, [94])], sh := [.a [0, 8, 3, 3, 5, 4, 5, 4, 0], .n] }
def QAC : Ann := { jn := [(2, (20, 11, 20))], sh := [.a [0, 8, 3, 3, 5, 4, 5, 4, 0], .n] }
def Qyc : Ann := { nr := some [.r 0, .s 23 3], ak := [0], av := [(3, [43]), (5, [43])], lp := [(3, ⟨[0, 3, 4], [.s 0 0, .s 3 3], [0, 3], [.s 0 0, .s 3 3]⟩)], sh := [.z 3] }
def QAd : Ann := { ot := [(5, .one 1 (.one 4 (.alt (.one 0 (.one 2 (.alt (.one 3 (.one 5 (.one 6 (.one 7 (.one 8 (.one 9 (.done))))))) (.one 5 (.one 3 (.one 6 (.one 7 (.one 8 (.one 9 (.done)))))))))) (.one 2 (.alt (.one 0 (.alt (.one 3 (.one 5 (.one 6 (.one 7 (.one 8 (.one 9 (.done))))))) (.one 5 (.one 3 (.one 6 (.one 7 (.one 8 (.one 9 (.done))))))))) (.alt (.one 3 (.alt (.one 0 (.one 5 (.one 6 (.one 7 (.one 8 (.one 9 (.done))))))) (.one 5 (.one 0 (.one 6 (.one 7 (.one 8 (.one 9 (.done))))))))) (.one 5 (.one 0 (.one 3 (.one 6 (.one 7 (.one 8 (.one 9 (.done))))))))))))))], nr := some [.r 0, .g 29 9 2, .g 29 13 3], ak := [0], av := [(1, [111]), (3, [43]), (4, [79]), (5, [43])], sh := [.a [0, 0, 0, 0, 0, 0, 0, 0, 0, 2, 0, 0, 0, 3]] }
def QAl : Ann := { sh := [.z 8] }
def Qwx : Ann := { lp := [(3, ⟨[3, 7, 8, 9], [.s 3 3], [3], [.s 3 3]⟩)], sh := [.z 3] }
def QCJ : Ann := { sh := [.z 3] }
def QAy : Ann := { sh := [.z 5] }
def QB0 : Ann := { sh := [.z 4] }
def QAq : Ann := { sh := [.z 5] }
def Qz8 : Ann := { sh := [.z 4] }
def QAN : Ann := { jn := [(1, (2, 3, 21))] }
def QwY : Ann := { jn := [(6, (39, 15, 39))], lp := [(4, ⟨[0, 8, 9, 10], [], [], []⟩)], rt := ⟨[2], [], [], []⟩ }
def QBE : Ann := {}
def Qz5 : Ann := {}
def QwJ : Ann := { lp := [(2, ⟨[0, 1, 5], [], [], []⟩)], rt := ⟨[4], [], [], []⟩ }
def Qyd : Ann := { ac := [(10, 0)], jn := [(7, (36, 20, 36))], lp := [(5, ⟨[0, 1, 5, 13, 14, 15], [.s 5 1], [5], [.s 5 1]⟩)], sh := [.z 1] }
def QAI : Ann := {}
def QBt : Ann := {}
def QAh : Ann := {}
def QAj : Ann := { jn := [(1, (2, 3, 26))] }
def QBH : Ann := { jn := [(1, (5, 6, 19)), (3, (19, 20, 30))] }
def QzW : Ann := { sh := [.z 2] }
def QCa : Ann := {}
def QxV : Ann := { lp := [(4, ⟨[1, 2, 15, 16, 17], [], [], []⟩)], rt := ⟨[6], [], [], []⟩ }
def QAS : Ann := { jn := [(1, (4, 5, 24))] }
def QzD : Ann := { lp := [(4, ⟨[0, 1, 12, 13], [], [], []⟩)], rt := ⟨[4], [], [], []⟩ }
def Qx2 : Ann := { nr := some [.r 0, .s 20 8], ak := [0], av := [(3, [43]), (5, [111])], lp := [(3, ⟨[0, 3, 4], [.s 0 0, .s 3 8], [0, 3], [.s 0 0, .s 3 8]⟩)], sh := [.z 8] }
def QAc : Ann := { ak := [0], av := [(1, [43, 122]), (2, [43]), (4, [79]), (6, [79]), (8, [79]), (10, [80]), (12, [79])] }
def QCG : Ann := { ak := [0, 1], av := [(1, [43])] }
def QAD : Ann := { ak := [0], av := [(1, [79])] }
def Qwr : Ann := { nr := some [.r 0, .s 24 2], ak := [0], av := [(2, [43]), (5, [43])], lp := [(3, ⟨[0, 3, 4], [.s 0 0, .s 3 2], [0, 3], [.s 0 0, .s 3 2]⟩)], sh := [.z 2] }
def QBQ : Ann := { ot := [(5, .one 2 (.one 3 (.one 6 (.alt (.one 0 (.alt (.one 1 (.alt (.one 4 (.one 5 (.alt (.one 7 (.alt (.one 8 (.one 9 (.one 10 (.one 11 (.one 12 (.one 13 (.one 14 (.done)))))))) (.one 12 (.one 8 (.one 9 (.one 10 (.one 11 (.one 13 (.one 14 (.done)))))))))) (.one 12 (.one 7 (.one 8 (.one 9 (.one 10 (.one 11 (.one 13 (.one 14 (.done)))))))))))) (.one 12 (.one 4 (.one 5 (.one 7 (.one 8 (.one 9 (.one 10 (.one 11 (.one 13 (.one 14 (.done))))))))))))) (.alt (.one 4 (.one 5 (.alt (.one 1 (.alt (.one 7 (.alt (.one 8 (.one 9 (.one 10 (.one 11 (.one 12 (.one 13 (.one 14 (.done)))))))) (.one 12 (.one 8 (.one 9 (.one 10 (.one 11 (.one 13 (.one 14 (.done)))))))))) (.one 12 (.one 7 (.one 8 (.one 9 (.one 10 (.one 11 (.one 13 (.one 14 (.done))))))))))) (.alt (.one 7 (.one 1 (.alt (.one 8 (.one 9 (.one 10 (.one 11 (.one 12 (.one 13 (.one 14 (.done)))))))) (.one 12 (.one 8 (.one 9 (.one 10 (.one 11 (.one 13 (.one 14 (.done))))))))))) (.one 12 (.alt (.one 1 (.one 7 (.one 8 (.one 9 (.one 10 (.one 11 (.one 13 (.one 14 (.done))))))))) (.one 7 (.one 1 (.one 8 (.one 9 (.one 10 (.one 11 (.one 13 (.one 14 (.done))))))))))))))) (.one 12 (.alt (.one 1 (.one 4 (.one 5 (.one 7 (.one 8 (.one 9 (.one 10 (.one 11 (.one 13 (.one 14 (.done))))))))))) (.one 4 (.one 5 (.alt (.one 1 (.one 7 (.one 8 (.one 9 (.one 10 (.one 11 (.one 13 (.one 14 (.done))))))))) (.one 7 (.one 1 (.one 8 (.one 9 (.one 10 (.one 11 (.one 13 (.one 14 (.done))))))))))))))))) (.alt (.one 1 (.alt (.one 0 (.alt (.one 4 (.one 5 (.alt (.one 7 (.alt (.one 8 (.one 9 (.one 10 (.one 11 (.one 12 (.one 13 (.one 14 (.done)))))))) (.one 12 (.one 8 (.one 9 (.one 10 (.one 11 (.one 13 (.one 14 (.done)))))))))) (.one 12 (.one 7 (.one 8 (.one 9 (.one 10 (.one 11 (.one 13 (.one 14 (.done)))))))))))) (.one 12 (.one 4 (.one 5 (.one 7 (.one 8 (.one 9 (.one 10 (.one 11 (.one 13 (.one 14 (.done))))))))))))) (.alt (.one 4 (.one 5 (.alt (.one 0 (.alt (.one 7 (.alt (.one 8 (.one 9 (.one 10 (.one 11 (.one 12 (.one 13 (.one 14 (.done)))))))) (.one 12 (.one 8 (.one 9 (.one 10 (.one 11 (.one 13 (.one 14 (.done)))))))))) (.one 12 (.one 7 (.one 8 (.one 9 (.one 10 (.one 11 (.one 13 (.one 14 (.done))))))))))) (.alt (.one 7 (.one 0 (.alt (.one 8 (.one 9 (.one 10 (.one 11 (.one 12 (.one 13 (.one 14 (.done)))))))) (.one 12 (.one 8 (.one 9 (.one 10 (.one 11 (.one 13 (.one 14 (.done))))))))))) (.one 12 (.alt (.one 0 (.one 7 (.one 8 (.one 9 (.one 10 (.one 11 (.one 13 (.one 14 (.done))))))))) (.one 7 (.one 0 (.one 8 (.one 9 (.one 10 (.one 11 (.one 13 (.one 14 (.done))))))))))))))) (.one 12 (.alt (.one 0 (.one 4 (.one 5 (.one 7 (.one 8 (.one 9 (.one 10 (.one 11 (.one 13 (.one 14 (.done))))))))))) (.one 4 (.one 5 (.alt (.one 0 (.one 7 (.one 8 (.one 9 (.one 10 (.one 11 (.one 13 (.one 14 (.done))))))))) (.one 7 (.one 0 (.one 8 (.one 9 (.one 10 (.one 11 (.one 13 (.one 14 (.done))))))))))))))))) (.alt (.one 4 (.one 5 (.alt (.one 0 (.alt (.one 1 (.alt (.one 7 (.alt (.one 8 (.one 9 (.one 10 (.one 11 (.one 12 (.one 13 (.one 14 (.done)))))))) (.one 12 (.one 8 (.one 9 (.one 10 (.one 11 (.one 13 (.one 14 (.done)))))))))) (.one 12 (.one 7 (.one 8 (.one 9 (.one 10 (.one 11 (.one 13 (.one 14 (.done))))))))))) (.alt (.one 7 (.one 1 (.alt (.one 8 (.one 9 (.one 10 (.one 11 (.one 12 (.one 13 (.one 14 (.done)))))))) (.one 12 (.one 8 (.one 9 (.one 10 (.one 11 (.one 13 (.one 14 (.done))))))))))) (.one 12 (.alt (.one 1 (.one 7 (.one 8 (.one 9 (.one 10 (.one 11 (.one 13 (.one 14 (.done))))))))) (.one 7 (.one 1 (.one 8 (.one 9 (.one 10 (.one 11 (.one 13 (.one 14 (.done)))))))))))))) (.alt (.one 1 (.alt (.one 0 (.alt (.one 7 (.alt (.one 8 (.one 9 (.one 10 (.one 11 (.one 12 (.one 13 (.one 14 (.done)))))))) (.one 12 (.one 8 (.one 9 (.one 10 (.one 11 (.one 13 (.one 14 (.done)))))))))) (.one 12 (.one 7 (.one 8 (.one 9 (.one 10 (.one 11 (.one 13 (.one 14 (.done))))))))))) (.alt (.one 7 (.one 0 (.alt (.one 8 (.one 9 (.one 10 (.one 11 (.one 12 (.one 13 (.one 14 (.done)))))))) (.one 12 (.one 8 (.one 9 (.one 10 (.one 11 (.one 13 (.one 14 (.done))))))))))) (.one 12 (.alt (.one 0 (.one 7 (.one 8 (.one 9 (.one 10 (.one 11 (.one 13 (.one 14 (.done))))))))) (.one 7 (.one 0 (.one 8 (.one 9 (.one 10 (.one 11 (.one 13 (.one 14 (.done)))))))))))))) (.alt (.one 7 (.one 0 (.one 1 (.alt (.one 8 (.one 9 (.one 10 (.one 11 (.one 12 (.one 13 (.one 14 (.done)))))))) (.one 12 (.one 8 (.one 9 (.one 10 (.one 11 (.one 13 (.one 14 (.done)))))))))))) (.one 12 (.alt (.one 0 (.alt (.one 1 (.one 7 (.one 8 (.one 9 (.one 10 (.one 11 (.one 13 (.one 14 (.done))))))))) (.one 7 (.one 1 (.one 8 (.one 9 (.one 10 (.one 11 (.one 13 (.one 14 (.done))))))))))) (.alt (.one 1 (.alt (.one 0 (.one 7 (.one 8 (.one 9 (.one 10 (.one 11 (.one 13 (.one 14 (.done))))))))) (.one 7 (.one 0 (.one 8 (.one 9 (.one 10 (.one 11 (.one 13 (.one 14 (.done))))))))))) (.one 7 (.one 0 (.one 1 (.one 8 (.one 9 (.one 10 (.one 11 (.one 13 (.one 14 (.done)))))))))))))))))) (.one 12 (.alt (.one 0 (.alt (.one 1 (.one 4 (.one 5 (.one 7 (.one 8 (.one 9 (.one 10 (.one 11 (.one 13 (.one 14 (.done))))))))))) (.one 4 (.one 5 (.alt (.one 1 (.one 7 (.one 8 (.one 9 (.one 10 (.one 11 (.one 13 (.one 14 (.done))))))))) (.one 7 (.one 1 (.one 8 (.one 9 (.one 10 (.one 11 (.one 13 (.one 14 (.done)))))))))))))) (.alt (.one 1 (.alt (.one 0 (.one 4 (.one 5 (.one 7 (.one 8 (.one 9 (.one 10 (.one 11 (.one 13 (.one 14 (.done))))))))))) (.one 4 (.one 5 (.alt (.one 0 (.one 7 (.one 8 (.one 9 (.one 10 (.one 11 (.one 13 (.one 14 (.done))))))))) (.one 7 (.one 0 (.one 8 (.one 9 (.one 10 (.one 11 (.one 13 (.one 14 (.done)))))))))))))) (.one 4 (.one 5 (.alt (.one 0 (.alt (.one 1 (.one 7 (.one 8 (.one 9 (.one 10 (.one 11 (.one 13 (.one 14 (.done))))))))) (.one 7 (.one 1 (.one 8 (.one 9 (.one 10 (.one 11 (.one 13 (.one 14 (.done))))))))))) (.alt (.one 1 (.alt (.one 0 (.one 7 (.one 8 (.one 9 (.one 10 (.one 11 (.one 13 (.one 14 (.done))))))))) (.one 7 (.one 0 (.one 8 (.one 9 (.one 10 (.one 11 (.one 13 (.one 14 (.done))))))))))) (.one 7 (.one 0 (.one 1 (.one 8 (.one 9 (.one 10 (.one 11 (.one 13 (.one 14 (.done)))))))))))))))))))))))], nr := some [.r 0, .r 1, .r 2, .r 3, .r 4, .r 5, .r 6, .r 7, .g 42 1 8, .g 42 2 3, .g 42 3 3, .g 42 4 5, .g 42 5 4, .g 42 6 5, .g 42 7 4], ak := [0, 1, 2, 3, 4, 5, 6, 7], av := [(1, [111]), (2, [43]), (4, [79]), (5, [43, 126])], sh := [.a [0, 8, 3, 3, 5, 4, 5, 4, 0]] }
def QwS : Ann := { ot := [(7, .one 0 (.one 1 (.one 2 (.one 3 (.one 4 (.one 6 (.one 7 (.one 12 (.alt (.one 5 (.alt (.one 8 (.alt (.one 9 (.one 10 (.one 11 (.one 13 (.one 14 (.one 15 (.one 16 (.done)))))))) (.one 10 (.alt (.one 9 (.one 11 (.one 13 (.one 14 (.one 15 (.one 16 (.done))))))) (.one 11 (.one 13 (.one 9 (.one 14 (.one 15 (.one 16 (.done))))))))))) (.one 10 (.alt (.one 8 (.alt (.one 9 (.one 11 (.one 13 (.one 14 (.one 15 (.one 16 (.done))))))) (.one 11 (.one 13 (.one 9 (.one 14 (.one 15 (.one 16 (.done))))))))) (.one 11 (.one 13 (.one 8 (.one 9 (.one 14 (.one 15 (.one 16 (.done)))))))))))) (.alt (.one 8 (.alt (.one 5 (.alt (.one 9 (.one 10 (.one 11 (.one 13 (.one 14 (.one 15 (.one 16 (.done)))))))) (.one 10 (.alt (.one 9 (.one 11 (.one 13 (.one 14 (.one 15 (.one 16 (.done))))))) (.one 11 (.one 13 (.one 9 (.one 14 (.one 15 (.one 16 (.done))))))))))) (.one 10 (.alt (.one 5 (.alt (.one 9 (.one 11 (.one 13 (.one 14 (.one 15 (.one 16 (.done))))))) (.one 11 (.one 13 (.one 9 (.one 14 (.one 15 (.one 16 (.done))))))))) (.one 11 (.one 13 (.one 5 (.one 9 (.one 14 (.one 15 (.one 16 (.done)))))))))))) (.one 10 (.alt (.one 5 (.alt (.one 8 (.alt (.one 9 (.one 11 (.one 13 (.one 14 (.one 15 (.one 16 (.done))))))) (.one 11 (.one 13 (.one 9 (.one 14 (.one 15 (.one 16 (.done))))))))) (.one 11 (.one 13 (.one 8 (.one 9 (.one 14 (.one 15 (.one 16 (.done)))))))))) (.alt (.one 8 (.alt (.one 5 (.alt (.one 9 (.one 11 (.one 13 (.one 14 (.one 15 (.one 16 (.done))))))) (.one 11 (.one 13 (.one 9 (.one 14 (.one 15 (.one 16 (.done))))))))) (.one 11 (.one 13 (.one 5 (.one 9 (.one 14 (.one 15 (.one 16 (.done)))))))))) (.one 11 (.one 13 (.alt (.one 5 (.one 8 (.one 9 (.one 14 (.one 15 (.one 16 (.done))))))) (.one 8 (.one 5 (.one 9 (.one 14 (.one 15 (.one 16 (.done)))))))))))))))))))))))], eb := [(7, [47])], av := [(8, [128])], jn := [(5, (44, 30, 44))], lp := [(5, ⟨[1, 3, 4, 8, 10, 12, 13], [.s 4 0, .s 8 0, .s 10 0, .c 2 1 8, .c 2 2 3, .c 2 3 3, .c 2 4 5, .c 2 5 4, .c 2 6 5, .c 2 7 4], [1, 3, 4, 8, 10, 12, 13], [.s 4 0, .s 8 0, .s 10 0, .c 2 1 8, .c 2 2 3, .c 2 3 3, .c 2 4 5, .c 2 5 4, .c 2 6 5, .c 2 7 4]⟩)], sh := [.a [0, 8, 3, 3, 5, 4, 5, 4, 0], .n] }
def QCX : Ann := { av := [(5, [128])], jn := [(2, (17, 9, 17))], sh := [.a [0, 8, 3, 3, 5, 4, 5, 4, 0], .n] }
def QAn : Ann := { ot := [(9, .one 0 (.one 1 (.one 2 (.one 3 (.one 4 (.one 5 (.one 6 (.one 7 (.one 8 (.one 9 (.one 10 (.one 11 (.one 12 (.one 13 (.one 14 (.one 15 (.one 16 (.one 17 (.alt (.one 18 (.alt (.one 19 (.one 20 (.one 21 (.one 22 (.one 23 (.one 24 (.one 25 (.done)))))))) (.one 23 (.one 19 (.one 20 (.one 21 (.one 22 (.one 24 (.one 25 (.done)))))))))) (.one 23 (.one 18 (.one 19 (.one 20 (.one 21 (.one 22 (.one 24 (.one 25 (.done))))))))))))))))))))))))))))], av := [(9, [136]), (10, [128])], jn := [(3, (33, 23, 33))], sh := [.a [0, 8, 3, 3, 5, 4, 5, 4, 0], .n] }
def QBu : Ann := { jn := [(3, (24, 19, 24))] }
def QCU : Ann := { av := [(13, [128])], jn := [(3, (34, 19, 34))], sh := [.a [0, 8, 3, 3, 5, 4, 5, 4, 0], .n] }
def QwU : Ann := { nr := some [.r 0, .s 57 3], ak := [0], av := [(3, [43]), (5, [43]), (9, [43]), (10, [43]), (12, [79]), (14, [79])], lp := [(3, ⟨[0, 3, 4], [.s 0 0, .s 3 3], [0, 3], [.s 0 0, .s 3 3]⟩)], sh := [.z 3] }
def QB8 : Ann := { ot := [(2, .one 0 (.one 5 (.alt (.one 1 (.alt (.one 2 (.alt (.one 3 (.one 4 (.one 6 (.one 7 (.one 8 (.one 9 (.one 10 (.one 11 (.one 12 (.done)))))))))) (.one 6 (.one 3 (.one 4 (.one 7 (.one 8 (.one 9 (.one 10 (.one 11 (.one 12 (.done)))))))))))) (.one 6 (.one 2 (.one 3 (.one 4 (.one 7 (.one 8 (.one 9 (.one 10 (.one 11 (.one 12 (.done))))))))))))) (.one 6 (.alt (.one 1 (.one 2 (.one 3 (.one 4 (.one 7 (.one 8 (.one 9 (.one 10 (.one 11 (.one 12 (.done))))))))))) (.one 7 (.alt (.one 1 (.one 2 (.one 3 (.one 4 (.one 8 (.one 9 (.one 10 (.one 11 (.one 12 (.done)))))))))) (.one 8 (.one 9 (.one 1 (.one 2 (.one 3 (.one 4 (.one 10 (.one 11 (.one 12 (.done))))))))))))))))), (3, .one 0 (.one 4 (.alt (.one 1 (.alt (.one 2 (.alt (.one 3 (.one 5 (.one 6 (.one 7 (.one 8 (.one 9 (.done))))))) (.one 5 (.one 3 (.one 6 (.one 7 (.one 8 (.one 9 (.done))))))))) (.one 5 (.one 2 (.one 3 (.one 6 (.one 7 (.one 8 (.one 9 (.done)))))))))) (.one 5 (.alt (.one 1 (.one 2 (.one 3 (.one 6 (.one 7 (.one 8 (.one 9 (.done)))))))) (.one 6 (.alt (.one 1 (.one 2 (.one 3 (.one 7 (.one 8 (.one 9 (.done))))))) (.one 7 (.alt (.one 1 (.one 2 (.one 3 (.one 8 (.one 9 (.done)))))) (.one 8 (.one 1 (.one 2 (.one 3 (.one 9 (.done))))))))))))))), (4, .one 0 (.one 1 (.one 5 (.alt (.one 2 (.alt (.one 3 (.alt (.one 4 (.one 6 (.one 7 (.one 8 (.one 9 (.one 10 (.one 11 (.one 12 (.one 13 (.one 14 (.done))))))))))) (.one 6 (.one 4 (.one 7 (.one 8 (.one 9 (.one 10 (.one 11 (.one 12 (.one 13 (.one 14 (.done))))))))))))) (.one 6 (.one 3 (.one 4 (.one 7 (.one 8 (.one 9 (.one 10 (.one 11 (.one 12 (.one 13 (.one 14 (.done)))))))))))))) (.one 6 (.alt (.one 2 (.one 3 (.one 4 (.one 7 (.one 8 (.one 9 (.one 10 (.one 11 (.one 12 (.one 13 (.one 14 (.done)))))))))))) (.one 7 (.alt (.one 2 (.one 3 (.one 4 (.one 8 (.one 9 (.one 10 (.one 11 (.one 12 (.one 13 (.one 14 (.done))))))))))) (.one 8 (.one 2 (.one 3 (.one 4 (.one 9 (.one 10 (.one 11 (.one 12 (.one 13 (.one 14 (.done)))))))))))))))))))], ak := [0] }
def QyE : Ann := { av := [(7, [145])], jn := [(5, (32, 17, 32))], lp := [(5, ⟨[0, 3, 6, 7], [.s 3 0, .s 6 8], [0, 3, 6, 7], [.s 3 0, .s 6 8]⟩)], sh := [.z 8, .n] }
def QzS : Ann := { av := [(8, [146])], jn := [(5, (29, 16, 29))], lp := [(5, ⟨[0, 3, 6, 7], [.s 3 0, .s 6 3], [0, 3, 6, 7], [.s 3 0, .s 6 3]⟩)], sh := [.z 3, .n] }
def QB4 : Ann := { jn := [(3, (32, 14, 32))], sh := [.z 3, .n] }
def QBe : Ann := { ot := [(5, .one 0 (.one 2 (.alt (.one 1 (.one 3 (.one 4 (.one 5 (.done))))) (.one 3 (.one 1 (.one 4 (.one 5 (.done))))))))], sh := [.z 5, .n] }
def Qvi : Ann := { jn := [(1, (19, 8, 19))], sh := [.a [0, 8, 3, 3, 5, 4, 5, 4, 0], .n] }
def QyB : Ann := { av := [(7, [151])], jn := [(2, (24, 10, 24)), (5, (39, 26, 39))], lp := [(5, ⟨[0, 3, 6, 7], [.s 3 0, .s 6 5], [0, 3, 6, 7], [.s 3 0, .s 6 5]⟩)], sh := [.z 5, .n] }
def QAF : Ann := {}
def QA9 : Ann := {}
def QBY : Ann := { jn := [(3, (22, 16, 22)), (6, (47, 29, 47))], sh := [.z 5, .n] }
def Qu1 : Ann := { jn := [(2, (24, 11, 24))] }
def QrC : Ann := { jn := [(6, (35, 16, 35))], lp := [(4, ⟨[1, 5, 6, 10, 11, 12], [.s 5 0], [5], [.s 5 0]⟩)] }
def QtD : Ann := { sh := [.a [0, 8, 3, 3, 5, 4, 5, 4, 0], .n] }
def QuV : Ann := { jn := [(1, (12, 5, 12))] }
def Qu0 : Ann := { ot := [(1, .one 0 (.one 2 (.alt (.one 1 (.one 3 (.one 4 (.one 5 (.done))))) (.one 3 (.one 1 (.one 4 (.one 5 (.done))))))))], sh := [.z 4, .n] }
def QuK : Ann := { jn := [(1, (12, 5, 12))] }
def Qtd : Ann := { jn := [(4, (16, 17, 26)), (6, (26, 27, 35)), (8, (35, 36, 44))] }
def Qtt : Ann := { sh := [.z 2] }
def Qtr : Ann := { ord := [(1, [0, 1, 2, 3, 4, 6, 7, 9, 10, 11, 13, 14, 15, 17, 18, 19, 21, 22, 23, 25, 26, 27, 29, 30, 5, 8, 12, 16, 20, 24, 28, 31, 32])], eb := [(1, [5, 12, 16, 20, 24, 28])], sh := [.a [0, 8, 3, 3, 5, 4, 5, 4, 0]] }
def Qth : Ann := { jn := [(1, (48, 3, 48)), (3, (86, 49, 86)), (5, (2, 87, 93))] }
def Qq3 : Ann := { lp := [(3, ⟨[0, 3, 4], [], [3], []⟩)] }
def QuU : Ann := { ak := [0], av := [(1, [43, 122])] }
def QuQ : Ann := { jn := [(1, (2, 3, 26))] }
def QqL : Ann := { lp := [(3, ⟨[3, 6, 7, 8], [], [3], []⟩)] }
def Qq2 : Ann := { lp := [(2, ⟨[0, 1, 7, 8], [], [], []⟩)], rt := ⟨[4], [], [], []⟩ }
def QuJ : Ann := {}
def Qrt : Ann := { lp := [(2, ⟨[0, 1, 7, 8], [], [], []⟩)], rt := ⟨[4], [], [], []⟩ }
def Qp2 : Ann := { lp := [(2, ⟨[0, 1, 7, 8], [], [], []⟩)], rt := ⟨[4], [], [], []⟩ }
def QtY : Ann := {}
def QuX : Ann := {}
def QtR : Ann := {}
def QtV : Ann := { ak := [0], av := [(1, [43])] }
def QrO : Ann := { ot := [(7, .one 1 (.one 2 (.one 3 (.one 8 (.alt (.one 0 (.alt (.one 4 (.one 5 (.one 6 (.one 7 (.one 9 (.one 10 (.done))))))) (.one 5 (.alt (.one 4 (.one 6 (.one 7 (.one 9 (.one 10 (.done)))))) (.one 6 (.one 4 (.one 7 (.one 9 (.one 10 (.done)))))))))) (.one 5 (.alt (.one 0 (.alt (.one 4 (.one 6 (.one 7 (.one 9 (.one 10 (.done)))))) (.one 6 (.one 4 (.one 7 (.one 9 (.one 10 (.done)))))))) (.one 6 (.one 0 (.one 4 (.one 7 (.one 9 (.one 10 (.done))))))))))))))], jn := [(2, (22, 9, 22)), (5, (39, 28, 39))], lp := [(2, ⟨[0, 3, 6], [.s 3 0], [0, 3, 6], [.s 3 0]⟩)], sh := [.z 2, .n] }
def QtL : Ann := {}
def Qu3 : Ann := { av := [(10, [128])], sh := [.a [0, 8, 3, 3, 5, 4, 5, 4, 0], .n] }
def QtU : Ann := { nr := some [.r 0, .g 20 1 2], ak := [0], av := [(1, [81]), (3, [43]), (4, [43])], sh := [.a [0, 2, 0]] }
def Qqv : Ann := { ot := [(9, .one 1 (.one 2 (.one 3 (.one 8 (.one 9 (.one 10 (.alt (.one 0 (.alt (.one 4 (.one 5 (.one 6 (.one 7 (.one 11 (.one 12 (.done))))))) (.one 5 (.alt (.one 4 (.one 6 (.one 7 (.one 11 (.one 12 (.done)))))) (.one 6 (.one 4 (.one 7 (.one 11 (.one 12 (.done)))))))))) (.one 5 (.alt (.one 0 (.alt (.one 4 (.one 6 (.one 7 (.one 11 (.one 12 (.done)))))) (.one 6 (.one 4 (.one 7 (.one 11 (.one 12 (.done)))))))) (.one 6 (.one 0 (.one 4 (.one 7 (.one 11 (.one 12 (.done))))))))))))))))], jn := [(6, (7, 19, 40)), (10, (67, 62, 67))], lp := [(4, ⟨[0, 3, 6, 7, 8], [.s 3 0], [0, 3, 6, 7], [.s 3 0]⟩)], sh := [.z 5, .n] }
def Qu2 : Ann := { jn := [(1, (19, 8, 19))], sh := [.a [0, 8, 3, 3, 5, 4, 5, 4, 0], .n] }
def Qrw : Ann := { jn := [(4, (22, 12, 22))], lp := [(2, ⟨[0, 1, 5], [], [], []⟩)], rt := ⟨[4], [], [], []⟩ }
def Quc : Ann := { jn := [(1, (6, 7, 15))] }
def QrJ : Ann := { jn := [(5, (44, 13, 44))], lp := [(3, ⟨[0, 1, 5, 6], [], [0, 5], []⟩)] }
def Qrh : Ann := { lp := [(2, ⟨[0, 1, 5], [], [], []⟩)], rt := ⟨[4], [], [], []⟩ }
def Qrk : Ann := { lp := [(2, ⟨[0, 1, 5], [], [], []⟩)], rt := ⟨[4], [], [], []⟩ }
def Quj : Ann := { sh := [.a [0, 8, 3, 3, 5, 4, 5, 4, 0], .n] }
def Qur : Ann := { jn := [(3, (24, 18, 24)), (6, (11, 31, 49)), (8, (60, 54, 60))], sh := [.z 5, .n] }
def QtM : Ann := { sh := [.a [0, 8, 3, 3, 5, 4, 5, 4, 0], .n] }
def Qu5 : Ann := { jn := [(1, (12, 5, 12))] }
def Qru : Ann := { lp := [(2, ⟨[1, 2, 4, 6], [.s 2 0, .s 4 0], [4], [.s 4 0]⟩)], rt := ⟨[4, 5], [.s 4 0], [], []⟩ }
def Qt1 : Ann := { sh := [.z 2] }
def Qrp : Ann := { lp := [(2, ⟨[0, 1, 5], [], [], []⟩)], rt := ⟨[4], [], [], []⟩ }
def QtP : Ann := {}
def QtT : Ann := {}
def Qtf : Ann := { jn := [(1, (5, 6, 19)), (3, (19, 20, 30))] }
def QtH : Ann := {}
def QrE : Ann := { jn := [(5, (37, 15, 37))], lp := [(3, ⟨[0, 1, 5, 8, 9, 10], [], [5], []⟩)] }
def Qtn : Ann := {}
def QpU : Ann := {}
def QuC : Ann := { jn := [(1, (3, 4, 16))] }
def QiW : Ann := { lp := [(2, ⟨[0, 1, 7, 8], [], [], []⟩)], rt := ⟨[4], [], [], []⟩ }
def Qts : Ann := {}
def QtK : Ann := {}
def Qrr : Ann := { lp := [(2, ⟨[1, 7, 8, 9], [], [], []⟩)], rt := ⟨[4], [], [], []⟩ }
def QuO : Ann := { jn := [(3, (19, 13, 19))], sh := [.z 3, .n] }
def QqD : Ann := { jn := [(6, (24, 15, 24))], lp := [(4, ⟨[0, 8, 9, 10], [], [], []⟩)], rt := ⟨[2], [], [], []⟩ }
def Qun : Ann := { ac := [(2, 0)], sh := [.z 3] }
def QtQ : Ann := { jn := [(1, (4, 5, 13))] }
def QtB : Ann := { jn := [(1, (3, 4, 14))] }
def Ql8 : Ann := { jn := [(2, (23, 15, 23))], lp := [(6, ⟨[0, 1, 5, 6, 25, 26, 27], [.s 5 1], [0, 1, 5, 6], [.s 5 1]⟩), (16, ⟨[0, 5, 6, 9, 43, 44, 45], [.s 5 1], [5, 9], [.s 5 1]⟩), (23, ⟨[5, 9, 13], [.s 5 1], [5], [.s 5 1]⟩)], rt := ⟨[4], [.s 4 1], [], []⟩, sh := [.z 1] }
def QqW : Ann := { ord := [(5, [0, 1, 2, 3, 4, 5, 6, 7, 8, 9, 10, 11, 13, 14, 15, 16, 17, 12, 18, 19, 20, 21])], eb := [(5, [18])], lp := [(3, ⟨[0, 3, 4], [.s 3 3], [3], [.s 3 3]⟩)], sh := [.z 3] }
def QqX : Ann := { jn := [(4, (35, 10, 35))], lp := [(2, ⟨[0, 3], [], [0], []⟩)], rt := ⟨[2], [], [], []⟩ }
def QpX : Ann := { jn := [(4, (61, 10, 61))], lp := [(2, ⟨[0, 3], [], [0], []⟩)], rt := ⟨[2], [], [], []⟩ }
def Qon : Ann := { jn := [(4, (53, 11, 53)), (9, (77, 59, 77))], lp := [(2, ⟨[0, 3], [], [0], []⟩), (7, ⟨[0, 3, 4], [], [0, 3], []⟩)], rt := ⟨[2], [], [], []⟩ }
def Qog : Ann := { jn := [(5, (58, 16, 58)), (10, (84, 64, 84))], lp := [(2, ⟨[0, 3], [], [0], []⟩), (8, ⟨[0, 3, 4, 5], [.s 4 0], [0, 3], []⟩)], rt := ⟨[2], [], [], []⟩ }
def QqY : Ann := { jn := [(3, (15, 7, 15)), (7, (67, 25, 67)), (10, (96, 73, 96))], lp := [(3, ⟨[0, 3, 4], [], [0], []⟩)], rt := ⟨[2], [], [], []⟩ }
def Qq7 : Ann := { jn := [(5, (58, 15, 58))], lp := [(2, ⟨[0, 3], [], [0], []⟩)], rt := ⟨[2], [], [], []⟩ }
def QmJ : Ann := { ord := [(13, [0, 1, 2, 3, 4, 5, 6, 7, 8, 9, 10, 11, 14, 15, 12, 13, 16, 17, 18, 19, 20, 21, 22, 23, 24, 25, 26, 27, 28, 29])], jn := [(13, (77, 48, 77)), (18, (103, 85, 103))], lp := [(5, ⟨[1, 3, 4], [.s 1 0, .s 3 1], [1, 3], [.s 1 0, .s 3 1]⟩), (10, ⟨[1, 3, 5], [.s 1 0, .s 3 1], [1], [.s 1 0]⟩), (16, ⟨[1, 7], [.s 1 0], [], []⟩)], rt := ⟨[2], [], [], []⟩ }
def Qqs : Ann := { ord := [(8, [0, 1, 2, 3, 4, 5, 6, 7, 8, 9, 10, 11, 12, 13, 14, 15, 16, 17, 18, 19, 20, 21, 22, 23, 24, 25, 26, 27, 28, 29, 30, 32, 33, 34, 35, 36, 38, 31, 37, 39, 40, 41, 42, 43, 44, 45, 46, 47])], jn := [(8, (77, 30, 77))], lp := [(4, ⟨[1, 3], [.s 1 0], [], []⟩)], rt := ⟨[2], [], [], []⟩ }
def Quz : Ann := {}
def Qqa : Ann := { lp := [(2, ⟨[0, 1, 7, 8], [], [], []⟩)], rt := ⟨[4], [], [], []⟩ }
def QuN : Ann := {}
def Qqm : Ann := { jn := [(4, (43, 10, 43))], lp := [(2, ⟨[0, 3], [], [0], []⟩)], rt := ⟨[2], [], [], []⟩ }
def QqE : Ann := { ot := [(4, .one 1 (.one 2 (.one 3 (.one 8 (.one 9 (.one 10 (.alt (.one 0 (.alt (.one 4 (.one 5 (.one 6 (.one 7 (.one 11 (.one 12 (.done))))))) (.one 5 (.alt (.one 4 (.one 6 (.one 7 (.one 11 (.one 12 (.done)))))) (.one 6 (.one 4 (.one 7 (.one 11 (.one 12 (.done)))))))))) (.one 5 (.alt (.one 0 (.alt (.one 4 (.one 6 (.one 7 (.one 11 (.one 12 (.done)))))) (.one 6 (.one 4 (.one 7 (.one 11 (.one 12 (.done)))))))) (.one 6 (.one 0 (.one 4 (.one 7 (.one 11 (.one 12 (.done))))))))))))))))], jn := [(2, (23, 8, 23))], lp := [(2, ⟨[0, 3, 6], [.s 3 0], [0, 3, 6], [.s 3 0]⟩)], sh := [.z 8, .n] }
def QqF : Ann := { ot := [(4, .one 0 (.one 1 (.one 2 (.one 4 (.one 8 (.one 9 (.one 10 (.alt (.one 3 (.one 5 (.one 6 (.one 7 (.one 11 (.one 12 (.one 13 (.done)))))))) (.one 5 (.one 3 (.one 6 (.one 7 (.one 11 (.one 12 (.one 13 (.done))))))))))))))))], jn := [(2, (21, 8, 21))], lp := [(2, ⟨[0, 3, 6], [.s 3 0], [0, 3, 6], [.s 3 0]⟩)], sh := [.z 3, .n] }
def Qp6 : Ann := { jn := [(3, (34, 16, 34))], lp := [(6, ⟨[3, 6, 7, 8], [.s 3 0, .s 6 3], [6], [.s 6 3]⟩)], sh := [.z 3, .n] }
def QuI : Ann := { ot := [(5, .one 1 (.alt (.one 0 (.alt (.one 2 (.one 3 (.one 4 (.one 5 (.one 6 (.done)))))) (.one 3 (.alt (.one 2 (.one 4 (.one 5 (.one 6 (.done))))) (.one 4 (.one 2 (.one 5 (.one 6 (.done))))))))) (.one 3 (.alt (.one 0 (.alt (.one 2 (.one 4 (.one 5 (.one 6 (.done))))) (.one 4 (.one 2 (.one 5 (.one 6 (.done))))))) (.one 4 (.one 0 (.one 2 (.one 5 (.one 6 (.done))))))))))], sh := [.z 5, .n] }
def Qqn : Ann := { jn := [(3, (21, 15, 21))], lp := [(6, ⟨[6, 7, 8], [.s 6 3], [6], [.s 6 3]⟩)], sh := [.z 3, .n] }
def Qtq : Ann := { ot := [(1, .one 1 (.alt (.one 0 (.alt (.one 2 (.one 3 (.one 4 (.one 5 (.one 6 (.done)))))) (.one 3 (.alt (.one 2 (.one 4 (.one 5 (.one 6 (.done))))) (.one 4 (.one 2 (.one 5 (.one 6 (.done))))))))) (.one 3 (.alt (.one 0 (.alt (.one 2 (.one 4 (.one 5 (.one 6 (.done))))) (.one 4 (.one 2 (.one 5 (.one 6 (.done))))))) (.one 4 (.one 0 (.one 2 (.one 5 (.one 6 (.done))))))))))], sh := [.z 4, .n] }
def Qus : Ann := { jn := [(1, (2, 3, 26))] }
def QqB : Ann := { lp := [(2, ⟨[0, 1, 5], [], [], []⟩)], rt := ⟨[4], [], [], []⟩ }
def QuS : Ann := { jn := [(1, (19, 7, 19))] }
def Que : Ann := { jn := [(1, (2, 3, 26))] }
def Qt3 : Ann := {}
def Qqd : Ann := { lp := [(3, ⟨[0, 3, 4], [], [3], []⟩)] }
def Qp7 : Ann := { lp := [(2, ⟨[0, 1, 7, 8], [], [], []⟩)], rt := ⟨[4], [], [], []⟩ }
def Qup : Ann := { jn := [(1, (19, 7, 19))] }
def Qtv : Ann := { jn := [(1, (2, 3, 11))] }
def Qtk : Ann := {}
def Quo : Ann := {}
def QuZ : Ann := { sh := [.z 3] }
def Qtp : Ann := { ak := [0], ac := [(0, 0)] }
def Qu8 : Ann := {}
def Quv : Ann := {}
def Qug : Ann := {}
def Qti : Ann := { jn := [(1, (2, 3, 21))] }
def QuB : Ann := {}
def Qqk : Ann := { lp := [(3, ⟨[0, 1, 2, 7, 8], [], [7], []⟩)] }
def Qqb : Ann := { jn := [(3, (16, 9, 16)), (6, (42, 28, 42))], lp := [(3, ⟨[0, 1, 5, 6], [.s 5 1], [5], [.s 5 1]⟩)], sh := [.z 1] }
def Qri : Ann := { lp := [(2, ⟨[0, 1, 5], [], [], []⟩)], rt := ⟨[4], [], [], []⟩ }
def Qtl : Ann := {}
def QpT : Ann := { jn := [(5, (44, 13, 44))], lp := [(3, ⟨[0, 1, 5, 6], [], [0, 5], []⟩)] }
def Qtx : Ann := {}
def Qp9 : Ann := { lp := [(2, ⟨[0, 1, 7, 8], [], [], []⟩)], rt := ⟨[4], [], [], []⟩ }
def QmQ : Ann := { ak := [0], ac := [(3, 0), (6, 0)], lp := [(2, ⟨[0, 1, 2, 6, 7, 8], [.s 0 3], [0, 1, 2, 6, 7], [.s 0 3]⟩), (7, ⟨[0, 1, 2, 6], [.s 0 3], [0], [.s 0 3]⟩), (9, ⟨[0, 1, 2, 6, 7, 8], [.s 0 3], [0, 1, 2, 6, 7], [.s 0 3]⟩)] }
def Qut : Ann := {}
def QtE : Ann := {}
def Qqp : Ann := { ot := [(6, .one 1 (.one 2 (.one 3 (.one 5 (.one 8 (.one 9 (.one 10 (.alt (.one 0 (.alt (.one 4 (.one 6 (.one 7 (.one 11 (.one 12 (.done)))))) (.one 6 (.one 4 (.one 7 (.one 11 (.one 12 (.done)))))))) (.one 6 (.one 0 (.one 4 (.one 7 (.one 11 (.one 12 (.done)))))))))))))))], jn := [(2, (17, 6, 17)), (4, (31, 20, 31))], lp := [(2, ⟨[0, 1, 5], [], [0, 1, 5], []⟩)], sh := [.z 1] }
def QoE : Ann := { ak := [0], jn := [(4, (34, 18, 34))], lp := [(1, ⟨[0, 1, 2, 3, 8], [.s 0 3], [0], [.s 0 3]⟩), (4, ⟨[0, 1, 2, 3, 8, 9], [.s 0 3], [0, 1, 2, 3, 8], [.s 0 3]⟩)] }
noncomputable def T : Tld := { P := Tryz.prog, ann := [(3, An3), (4, An4), (5, An5), (6, An6), (7, An7), (8, An8), (9, An9), (10, QxA), (11, QBW), (12, QxN), (13, QBM), (14, QCK), (15, QBf), (16, QyK), (17, QBD), (18, Qwy), (19, QCQ), (20, QBl), (21, Qyt), (22, Qy2), (23, Qxb), (24, Qwi), (25, Qx3), (26, QwZ), (27, Qs4), (28, Qzq), (29, Qqy), (30, Qzn), (31, QzV), (32, Qy0), (33, Qyi), (34, QzP), (35, Qxp), (36, QyH), (37, QBL), (38, QBZ), (39, QB3), (40, Qvc), (41, QAo), (42, QCh), (43, QB7), (44, QCy), (45, QC4), (46, QC7), (47, QCl), (48, QBS), (49, Qz0), (50, QBN), (51, QAC), (52, Qyc), (53, QAd), (54, QAl), (55, Qwx), (56, QCJ), (57, QAy), (58, QB0), (59, QAq), (60, Qz8), (61, QAN), (62, QwY), (63, QBE), (64, Qz5), (65, QwJ), (66, Qyd), (67, QAI), (68, QBt), (69, QAh), (70, QAj), (71, QBH), (72, QzW), (73, QCa), (74, QxV), (75, QAS), (76, QzD), (77, Qx2), (78, QAc), (79, QCG), (80, QAD), (81, Qwr), (82, QBQ), (83, QwS), (84, QCX), (85, QAn), (86, QBu), (87, QCU), (88, QwU), (89, QB8), (90, QyE), (91, QzS), (92, QB4), (93, QBe), (94, Qvi), (95, QyB), (97, QAF), (98, QA9), (99, QBY), (100, Qu1), (101, QrC), (102, QtD), (103, QuV), (104, Qu0), (105, QuK), (106, Qtd), (107, Qtt), (108, Qtr), (109, Qth), (110, Qq3), (111, QuU), (112, QuQ), (113, QqL), (115, Qq2), (116, QuJ), (117, Qrt), (118, Qp2), (119, QtY), (120, QuX), (121, QtR), (122, QtV), (123, QrO), (124, QtL), (125, Qu3), (126, QtU), (127, Qqv), (128, Qu2), (129, Qrw), (130, Quc), (131, QrJ), (132, Qrh), (133, Qrk), (134, Quj), (135, Qur), (136, QtM), (137, Qu5), (138, Qru), (139, Qt1), (140, Qrp), (141, QtP), (142, QtT), (143, Qtf), (144, QtH), (147, QrE), (148, Qtn), (149, QpU), (150, QuC), (154, QiW), (155, Qts), (156, QtK), (157, Qrr), (158, QuO), (159, QqD), (160, Qun), (161, QtQ), (162, QtB), (163, Ql8), (164, QqW), (165, QqX), (166, QpX), (167, Qon), (168, Qog), (169, QqY), (170, Qq7), (171, QmJ), (172, Qqs), (173, Quz), (176, Qqa), (177, QuN), (178, Qqm), (179, QqE), (180, QqF), (181, Qp6), (182, QuI), (183, Qqn), (184, Qtq), (185, Qus), (186, QqB), (187, QuS), (188, Que), (189, Qt3), (190, Qqd), (195, Qp7), (199, Qup), (200, Qtv), (201, Qtk), (202, Quo), (203, QuZ), (204, Qtp), (205, Qu8), (206, Quv), (207, Qug), (208, Qti), (209, QuB), (210, Qqk), (211, Qqb), (212, Qri), (213, Qtl), (225, QpT), (226, Qtx), (231, Qp9), (232, QmQ), (233, Qut), (234, QtE), (235, Qqp), (244, QoE)], xt := fun _ _ => none, st := fun g => Nat.beq g 114, qt := fun _ => false, pz := [(108, [.a [0, 8, 3, 3, 5, 4, 5, 4, 0]]), (148, [.z 1, .n])], vt := fun g => Nat.beq g 94 || Nat.beq g 96 || Nat.beq g 128 || Nat.beq g 136 || Nat.beq g 145 || Nat.beq g 146 || Nat.beq g 151, mt := mt }
theorem TP : T.P = Tryz.prog := _root_.id rfl
theorem TZ : T.pz = [(108, [.a [0, 8, 3, 3, 5, 4, 5, 4, 0]]), (148, [.z 1, .n])] := _root_.id rfl
theorem QBI (n : Nat) (args : List AV) : CP T n 245 args = none := by
 cases n with
 | zero => rfl
 | succ n => rw [QSg T n 245 args (by kernel_rfl)]; rfl
theorem QTW : decide ((0 : Int) ≤ 33) = true := _root_.id rfl
theorem QQw : decide ((0 : Int) ≤ 47) = true := _root_.id rfl
def eY := aI evT <| aI QP6 <| aI @QVd <| aI @Qme <| @VK
def eZ := aI evB <| aI evT <| aI tys <| aI QP6 <| aI TP <| aI TZ <| aI (@QKP T) <| aI (@QMO T) <| aI (@QQn T) <| aI @QBI <| aI QTW <| aI QQw <| aI @VK <| @QIX T
theorem QFp (n : Nat) {R} {xs : List Trial} (i : Int) {V} {ys : List Trial} [H1 : EncL QS R xs] [H2 : EncL QS V ys] : CM T (n + 1) 96 [some (.lst 4 R), some (.lst 4 V)] [.sl 0, .i .i64 i, .sl 1] = Vo (QdH xs i ys 32) (some (.own 4 ((Vc xs i ys).map QS))) () := by
 rcases H1, H2 with ⟨⟨rfl⟩, ⟨rfl⟩⟩
 rw [QBU T n 96 _ _ (by kernel_rfl)]
 show (if 4 = 4 ∧ 4 = 4 ∧ Qt (xs.map QS) = true ∧ Qt (ys.map QS) = true then Vo (QdH (xs.map QS) i (ys.map QS) 32) (some (AV.own 4 (Vc (xs.map QS) i (ys.map QS)))) () else none) = _
 rw [if_pos ⟨rfl, rfl, Qjt xs, Qjt ys⟩, Qpb, Qpy]
theorem QBa (n : Nat) {R} {xs : List Find} (i : Int) {V} {ys : List Find} [H1 : EncL QE R xs] [H2 : EncL QE V ys] : CM T (n + 1) 145 [some (.lst 8 R), some (.lst 8 V)] [.sl 0, .i .i64 i, .sl 1] = Vo (QdH xs i ys 64) (some (.own 8 ((Vc xs i ys).map QE))) () := by
 rcases H1, H2 with ⟨⟨rfl⟩, ⟨rfl⟩⟩
 rw [QBU T n 145 _ _ (by kernel_rfl)]
 show (if 8 = 8 ∧ 8 = 8 ∧ Qt (xs.map QE) = true ∧ Qt (ys.map QE) = true then Vo (QdH (xs.map QE) i (ys.map QE) 64) (some (AV.own 8 (Vc (xs.map QE) i (ys.map QE)))) () else none) = _
 rw [if_pos ⟨rfl, rfl, QlW xs, QlW ys⟩, Qpb, Qpy]
theorem QBz (n : Nat) {R} {xs : List Secret} (i : Int) {V} {ys : List Secret} [H1 : EncL QB R xs] [H2 : EncL QB V ys] : CM T (n + 1) 146 [some (.lst 3 R), some (.lst 3 V)] [.sl 0, .i .i64 i, .sl 1] = Vo (QdH xs i ys 40) (some (.own 3 ((Vc xs i ys).map QB))) () := by
 rcases H1, H2 with ⟨⟨rfl⟩, ⟨rfl⟩⟩
 rw [QBU T n 146 _ _ (by kernel_rfl)]
 show (if 3 = 3 ∧ 3 = 3 ∧ Qt (xs.map QB) = true ∧ Qt (ys.map QB) = true then Vo (QdH (xs.map QB) i (ys.map QB) 40) (some (AV.own 3 (Vc (xs.map QB) i (ys.map QB)))) () else none) = _
 rw [if_pos ⟨rfl, rfl, Qhd xs, Qhd ys⟩, Qpb, Qpy]
theorem QCe (n : Nat) {R} {xs : List Claim} (i : Int) {V} {ys : List Claim} [H1 : EncL Qj R xs] [H2 : EncL Qj V ys] : CM T (n + 1) 151 [some (.lst 5 R), some (.lst 5 V)] [.sl 0, .i .i64 i, .sl 1] = Vo (QdH xs i ys 40) (some (.own 5 ((Vc xs i ys).map Qj))) () := by
 rcases H1, H2 with ⟨⟨rfl⟩, ⟨rfl⟩⟩
 rw [QBU T n 151 _ _ (by kernel_rfl)]
 show (if 5 = 5 ∧ 5 = 5 ∧ Qt (xs.map Qj) = true ∧ Qt (ys.map Qj) = true then Vo (QdH (xs.map Qj) i (ys.map Qj) 40) (some (AV.own 5 (Vc (xs.map Qj) i (ys.map Qj)))) () else none) = _
 rw [if_pos ⟨rfl, rfl, Qjp xs, Qjp ys⟩, Qpb, Qpy]
theorem QTU : cI = VP := _root_.id rfl
theorem QHr (xs : List Int) : Qc2 (xs.map VP) = some xs := QsY xs
theorem QEq : T.st 114 = true := by kernel_rfl
theorem QJv : T.st 16 = false := by kernel_rfl
theorem QH6 : T.qt 16 = false := by kernel_rfl
theorem QLb : T.wt 16 = true := by kernel_rfl
theorem QMb : T.vt 16 = false := by kernel_rfl
theorem QMW : T.st 17 = false := by kernel_rfl
theorem QLI : T.qt 17 = false := by kernel_rfl
theorem QMU : T.wt 17 = true := by kernel_rfl
theorem QMX : T.vt 17 = false := by kernel_rfl
theorem QJl : T.st 18 = false := by kernel_rfl
theorem QJd : T.qt 18 = false := by kernel_rfl
theorem QNK : T.wt 18 = true := by kernel_rfl
theorem QMA : T.vt 18 = false := by kernel_rfl
theorem QIk : T.st 37 = false := by kernel_rfl
theorem QOL : T.qt 37 = false := by kernel_rfl
theorem QJF : T.wt 37 = true := by kernel_rfl
theorem QQa : T.vt 37 = false := by kernel_rfl
theorem QJK : T.st 38 = false := by kernel_rfl
theorem QLc : T.qt 38 = false := by kernel_rfl
theorem QOS : T.wt 38 = true := by kernel_rfl
theorem QNT : T.vt 38 = false := by kernel_rfl
theorem QIe : T.st 40 = false := by kernel_rfl
theorem QLa : T.qt 40 = false := by kernel_rfl
theorem QNR : T.wt 40 = true := by kernel_rfl
theorem QJA : T.vt 40 = false := by kernel_rfl
theorem QOI : T.st 41 = false := by kernel_rfl
theorem QMK : T.qt 41 = false := by kernel_rfl
theorem QKA : T.wt 41 = true := by kernel_rfl
theorem QJ0 : T.vt 41 = false := by kernel_rfl
theorem QIn : T.st 42 = false := by kernel_rfl
theorem QMt : T.qt 42 = false := by kernel_rfl
theorem QKI : T.wt 42 = true := by kernel_rfl
theorem QLB : T.vt 42 = false := by kernel_rfl
theorem QPB : T.st 43 = false := by kernel_rfl
theorem QL1 : T.qt 43 = false := by kernel_rfl
theorem QKB : T.wt 43 = true := by kernel_rfl
theorem QPF : T.vt 43 = false := by kernel_rfl
theorem QPk : T.st 52 = false := by kernel_rfl
theorem QQi : T.qt 52 = false := by kernel_rfl
theorem QMz : T.wt 52 = true := by kernel_rfl
theorem QL6 : T.vt 52 = false := by kernel_rfl
theorem QJU : T.st 53 = false := by kernel_rfl
theorem QL3 : T.qt 53 = false := by kernel_rfl
theorem QJ6 : T.wt 53 = true := by kernel_rfl
theorem QMe : T.vt 53 = false := by kernel_rfl
theorem QJ3 : T.st 77 = false := by kernel_rfl
theorem QIm : T.qt 77 = false := by kernel_rfl
theorem QMs : T.wt 77 = true := by kernel_rfl
theorem QKr : T.vt 77 = false := by kernel_rfl
theorem QPq : T.st 78 = false := by kernel_rfl
theorem QKy : T.qt 78 = false := by kernel_rfl
theorem QMM : T.wt 78 = true := by kernel_rfl
theorem QMc : T.vt 78 = false := by kernel_rfl
theorem QKU : T.st 79 = false := by kernel_rfl
theorem QHR : T.qt 79 = false := by kernel_rfl
theorem QMm : T.wt 79 = true := by kernel_rfl
theorem QPg : T.vt 79 = false := by kernel_rfl
theorem QJe : T.st 80 = false := by kernel_rfl
theorem QHM : T.qt 80 = false := by kernel_rfl
theorem QJQ : T.wt 80 = true := by kernel_rfl
theorem QHY : T.vt 80 = false := by kernel_rfl
theorem QOZ : T.st 81 = false := by kernel_rfl
theorem QJH : T.qt 81 = false := by kernel_rfl
theorem QMH : T.wt 81 = true := by kernel_rfl
theorem QJ5 : T.vt 81 = false := by kernel_rfl
theorem QPR : T.st 82 = false := by kernel_rfl
theorem QMQ : T.qt 82 = false := by kernel_rfl
theorem QOC : T.wt 82 = true := by kernel_rfl
theorem QOb : T.vt 82 = false := by kernel_rfl
theorem QNS : T.st 88 = false := by kernel_rfl
theorem QQh : T.qt 88 = false := by kernel_rfl
theorem QNN : T.wt 88 = true := by kernel_rfl
theorem QPT : T.vt 88 = false := by kernel_rfl
theorem QHL : T.st 89 = false := by kernel_rfl
theorem QNn : T.qt 89 = false := by kernel_rfl
theorem QLV : T.wt 89 = true := by kernel_rfl
theorem QO8 : T.vt 89 = false := by kernel_rfl
theorem QIK : T.st 94 = false := by kernel_rfl
theorem QL7 : T.qt 94 = false := by kernel_rfl
theorem QIt : T.wt 94 = false := by kernel_rfl
theorem QP1 : T.vt 94 = true := by kernel_rfl
theorem QME : T.st 96 = false := by kernel_rfl
theorem QL9 : T.qt 96 = false := by kernel_rfl
theorem QLf : T.wt 96 = false := by kernel_rfl
theorem QIi : T.vt 96 = true := by kernel_rfl
theorem QEr : T.st 111 = false := by kernel_rfl
theorem QHg : T.qt 111 = false := by kernel_rfl
theorem QGO : T.wt 111 = true := by kernel_rfl
theorem QFT : T.vt 111 = false := by kernel_rfl
theorem QFa : T.st 122 = false := by kernel_rfl
theorem QHx : T.qt 122 = false := by kernel_rfl
theorem QFv : T.wt 122 = true := by kernel_rfl
theorem QEt : T.vt 122 = false := by kernel_rfl
theorem QEI : T.st 126 = false := by kernel_rfl
theorem QES : T.qt 126 = false := by kernel_rfl
theorem QFf : T.wt 126 = true := by kernel_rfl
theorem QGV : T.vt 126 = false := by kernel_rfl
theorem QFn : T.st 128 = false := by kernel_rfl
theorem QHa : T.qt 128 = false := by kernel_rfl
theorem QGC : T.wt 128 = false := by kernel_rfl
theorem QG3 : T.vt 128 = true := by kernel_rfl
theorem QFC : T.st 136 = false := by kernel_rfl
theorem QHC : T.qt 136 = false := by kernel_rfl
theorem QFB : T.wt 136 = false := by kernel_rfl
theorem QEH : T.vt 136 = true := by kernel_rfl
theorem QGo : T.st 145 = false := by kernel_rfl
theorem QFi : T.qt 145 = false := by kernel_rfl
theorem QGK : T.wt 145 = false := by kernel_rfl
theorem QGF : T.vt 145 = true := by kernel_rfl
theorem QF4 : T.st 146 = false := by kernel_rfl
theorem QGN : T.qt 146 = false := by kernel_rfl
theorem QGJ : T.wt 146 = false := by kernel_rfl
theorem QEM : T.vt 146 = true := by kernel_rfl
theorem QGf : T.st 151 = false := by kernel_rfl
theorem QEW : T.qt 151 = false := by kernel_rfl
theorem QFA : T.wt 151 = false := by kernel_rfl
theorem QG9 : T.vt 151 = true := by kernel_rfl
theorem QFj : T.st 204 = false := by kernel_rfl
theorem QF2 : T.qt 204 = false := by kernel_rfl
theorem QG7 : T.wt 204 = true := by kernel_rfl
theorem QFb : T.vt 204 = false := by kernel_rfl
theorem QHi : T.st 232 = false := by kernel_rfl
theorem QEX : T.qt 232 = false := by kernel_rfl
theorem QGX : T.wt 232 = true := by kernel_rfl
theorem QEk : T.vt 232 = false := by kernel_rfl
theorem QHy : T.st 244 = false := by kernel_rfl
theorem QEo : T.qt 244 = false := by kernel_rfl
theorem QEE : T.wt 244 = true := by kernel_rfl
theorem QGT : T.vt 244 = false := by kernel_rfl
def srt := aI @QTU <| aI @QHr <| aI @QPc <| aI @QP9 <| aI @QJm <| aI @QKs <| aI @QEq <| aI @QJv <| aI @QH6 <| aI @QLb <| aI @QMb <| aI @QMW <| aI @QLI <| aI @QMU <| aI @QMX <| aI @QJl <| aI @QJd <| aI @QNK <| aI @QMA <| aI @QIk <| aI @QOL <| aI @QJF <| aI @QQa <| aI @QJK <| aI @QLc <| aI @QOS <| aI @QNT <| aI @QIe <| aI @QLa <| aI @QNR <| aI @QJA <| aI @QOI <| aI @QMK <| aI @QKA <| aI @QJ0 <| aI @QIn <| aI @QMt <| aI @QKI <| aI @QLB <| aI @QPB <| aI @QL1 <| aI @QKB <| aI @QPF <| aI @QPk <| aI @QQi <| aI @QMz <| aI @QL6 <| aI @QJU <| aI @QL3 <| aI @QJ6 <| aI @QMe <| aI @QJ3 <| aI @QIm <| aI @QMs <| aI @QKr <| aI @QPq <| aI @QKy <| aI @QMM <| aI @QMc <| aI @QKU <| aI @QHR <| aI @QMm <| aI @QPg <| aI @QJe <| aI @QHM <| aI @QJQ <| aI @QHY <| aI @QOZ <| aI @QJH <| aI @QMH <| aI @QJ5 <| aI @QPR <| aI @QMQ <| aI @QOC <| aI @QOb <| aI @QNS <| aI @QQh <| aI @QNN <| aI @QPT <| aI @QHL <| aI @QNn <| aI @QLV <| aI @QO8 <| aI @QIK <| aI @QL7 <| aI @QIt <| aI @QP1 <| aI @QME <| aI @QL9 <| aI @QLf <| aI @QIi <| aI @QEr <| aI @QHg <| aI @QGO <| aI @QFT <| aI @QFa <| aI @QHx <| aI @QFv <| aI @QEt <| aI @QEI <| aI @QES <| aI @QFf <| aI @QGV <| aI @QFn <| aI @QHa <| aI @QGC <| aI @QG3 <| aI @QFC <| aI @QHC <| aI @QFB <| aI @QEH <| aI @QGo <| aI @QFi <| aI @QGK <| aI @QGF <| aI @QF4 <| aI @QGN <| aI @QGJ <| aI @QEM <| aI @QGf <| aI @QEW <| aI @QFA <| aI @QG9 <| aI @QFj <| aI @QF2 <| aI @QG7 <| aI @QFb <| aI @QHi <| aI @QEX <| aI @QGX <| aI @QEk <| aI @QHy <| aI @QEo <| aI @QEE @QGT
theorem Aa3 : T.at 3 = some An3 := by kernel_rfl
theorem Aa4 : T.at 4 = some An4 := by kernel_rfl
theorem Aa5 : T.at 5 = some An5 := by kernel_rfl
theorem Aa6 : T.at 6 = some An6 := by kernel_rfl
theorem Aa7 : T.at 7 = some An7 := by kernel_rfl
theorem Aa8 : T.at 8 = some An8 := by kernel_rfl
theorem Aa9 : T.at 9 = some An9 := by kernel_rfl
theorem QIW : T.at 10 = some QxA := by kernel_rfl
theorem QUv : T.at 11 = some QBW := by kernel_rfl
theorem QMg : T.at 12 = some QxN := by kernel_rfl
theorem QU9 : T.at 13 = some QBM := by kernel_rfl
theorem QVa : T.at 14 = some QCK := by kernel_rfl
theorem QSl : T.at 15 = some QBf := by kernel_rfl
theorem QJS : T.at 16 = some QyK := by kernel_rfl
theorem QVu : T.at 17 = some QBD := by kernel_rfl
theorem QP0 : T.at 18 = some Qwy := by kernel_rfl
theorem QRM : T.at 19 = some QCQ := by kernel_rfl
theorem QQx : T.at 20 = some QBl := by kernel_rfl
theorem QKi : T.at 21 = some Qyt := by kernel_rfl
theorem QI8 : T.at 22 = some Qy2 := by kernel_rfl
theorem QPP : T.at 23 = some Qxb := by kernel_rfl
theorem QHk : T.at 24 = some Qwi := by kernel_rfl
theorem QNo : T.at 25 = some Qx3 := by kernel_rfl
theorem QLQ : T.at 26 = some QwZ := by kernel_rfl
theorem QCj : T.at 27 = some Qs4 := by kernel_rfl
theorem QLX : T.at 28 = some Qzq := by kernel_rfl
theorem Qw8 : T.at 29 = some Qqy := by kernel_rfl
theorem QKT : T.at 30 = some Qzn := by kernel_rfl
theorem QTQ : T.at 31 = some QzV := by kernel_rfl
theorem QNh : T.at 32 = some Qy0 := by kernel_rfl
theorem QOx : T.at 33 = some Qyi := by kernel_rfl
theorem QMD : T.at 34 = some QzP := by kernel_rfl
theorem QP4 : T.at 35 = some Qxp := by kernel_rfl
theorem QI5 : T.at 36 = some QyH := by kernel_rfl
theorem QRH : T.at 37 = some QBL := by kernel_rfl
theorem QRp : T.at 38 = some QBZ := by kernel_rfl
theorem QUb : T.at 39 = some QB3 := by kernel_rfl
theorem QHB : T.at 40 = some Qvc := by kernel_rfl
theorem QSi : T.at 41 = some QAo := by kernel_rfl
theorem QU5 : T.at 42 = some QCh := by kernel_rfl
theorem QTR : T.at 43 = some QB7 := by kernel_rfl
theorem QQN : T.at 44 = some QCy := by kernel_rfl
theorem QVG : T.at 45 = some QC4 := by kernel_rfl
theorem QSF : T.at 46 = some QC7 := by kernel_rfl
theorem QQ1 : T.at 47 = some QCl := by kernel_rfl
theorem QVI : T.at 48 = some QBS := by kernel_rfl
theorem QUO : T.at 49 = some Qz0 := by kernel_rfl
theorem QSu : T.at 50 = some QBN := by kernel_rfl
theorem QU4 : T.at 51 = some QAC := by kernel_rfl
theorem QIl : T.at 52 = some Qyc := by kernel_rfl
theorem QT2 : T.at 53 = some QAd := by kernel_rfl
theorem QRO : T.at 54 = some QAl := by kernel_rfl
theorem QIc : T.at 55 = some Qwx := by kernel_rfl
theorem QUd : T.at 56 = some QCJ := by kernel_rfl
theorem QUi : T.at 57 = some QAy := by kernel_rfl
theorem QQu : T.at 58 = some QB0 := by kernel_rfl
theorem QUR : T.at 59 = some QAq := by kernel_rfl
theorem QRj : T.at 60 = some Qz8 := by kernel_rfl
theorem QRs : T.at 61 = some QAN := by kernel_rfl
theorem QHW : T.at 62 = some QwY := by kernel_rfl
theorem QSz : T.at 63 = some QBE := by kernel_rfl
theorem QSG : T.at 64 = some Qz5 := by kernel_rfl
theorem QPH : T.at 65 = some QwJ := by kernel_rfl
theorem QLE : T.at 66 = some Qyd := by kernel_rfl
theorem QVQ : T.at 67 = some QAI := by kernel_rfl
theorem QUA : T.at 68 = some QBt := by kernel_rfl
theorem QUC : T.at 69 = some QAh := by kernel_rfl
theorem QUD : T.at 70 = some QAj := by kernel_rfl
theorem QRr : T.at 71 = some QBH := by kernel_rfl
theorem QSC : T.at 72 = some QzW := by kernel_rfl
theorem QSp : T.at 73 = some QCa := by kernel_rfl
theorem QKh : T.at 74 = some QxV := by kernel_rfl
theorem QQp : T.at 75 = some QAS := by kernel_rfl
theorem QPw : T.at 76 = some QzD := by kernel_rfl
theorem QH7 : T.at 77 = some Qx2 := by kernel_rfl
theorem QQ9 : T.at 78 = some QAc := by kernel_rfl
theorem QRT : T.at 79 = some QCG := by kernel_rfl
theorem QTI : T.at 80 = some QAD := by kernel_rfl
theorem QJf : T.at 81 = some Qwr := by kernel_rfl
theorem QTy : T.at 82 = some QBQ := by kernel_rfl
theorem QPE : T.at 83 = some QwS := by kernel_rfl
theorem QRJ : T.at 84 = some QCX := by kernel_rfl
theorem QS0 : T.at 85 = some QAn := by kernel_rfl
theorem QRK : T.at 86 = some QBu := by kernel_rfl
theorem QSA : T.at 87 = some QCU := by kernel_rfl
theorem QLU : T.at 88 = some QwU := by kernel_rfl
theorem QUn : T.at 89 = some QB8 := by kernel_rfl
theorem QKz : T.at 90 = some QyE := by kernel_rfl
theorem QOO : T.at 91 = some QzS := by kernel_rfl
theorem QS9 : T.at 92 = some QB4 := by kernel_rfl
theorem QRn : T.at 93 = some QBe := by kernel_rfl
theorem QGL : T.at 94 = some Qvi := by kernel_rfl
theorem QIQ : T.at 95 = some QyB := by kernel_rfl
theorem QTe : T.at 97 = some QAF := by kernel_rfl
theorem QVE : T.at 98 = some QA9 := by kernel_rfl
theorem QUr : T.at 99 = some QBY := by kernel_rfl
theorem QKt : T.at 100 = some Qu1 := by kernel_rfl
theorem QDH : T.at 101 = some QrC := by kernel_rfl
theorem QM5 : T.at 102 = some QtD := by kernel_rfl
theorem QKO : T.at 103 = some QuV := by kernel_rfl
theorem QIa : T.at 104 = some Qu0 := by kernel_rfl
theorem QO1 : T.at 105 = some QuK := by kernel_rfl
theorem QI4 : T.at 106 = some Qtd := by kernel_rfl
theorem QP7 : T.at 107 = some Qtt := by kernel_rfl
theorem QK7 : T.at 108 = some Qtr := by kernel_rfl
theorem QJj : T.at 109 = some Qth := by kernel_rfl
theorem QDm : T.at 110 = some Qq3 := by kernel_rfl
theorem QOc : T.at 111 = some QuU := by kernel_rfl
theorem QPn : T.at 112 = some QuQ := by kernel_rfl
theorem QEh : T.at 113 = some QqL := by kernel_rfl
theorem QDu : T.at 115 = some Qq2 := by kernel_rfl
theorem QIr : T.at 116 = some QuJ := by kernel_rfl
theorem QDd : T.at 117 = some Qrt := by kernel_rfl
theorem QEa : T.at 118 = some Qp2 := by kernel_rfl
theorem QQj : T.at 119 = some QtY := by kernel_rfl
theorem QM1 : T.at 120 = some QuX := by kernel_rfl
theorem QKj : T.at 121 = some QtR := by kernel_rfl
theorem QIj : T.at 122 = some QtV := by kernel_rfl
theorem QEc : T.at 123 = some QrO := by kernel_rfl
theorem QMZ : T.at 124 = some QtL := by kernel_rfl
theorem QKX : T.at 125 = some Qu3 := by kernel_rfl
theorem QI7 : T.at 126 = some QtU := by kernel_rfl
theorem QDW : T.at 127 = some Qqv := by kernel_rfl
theorem QPm : T.at 128 = some Qu2 := by kernel_rfl
theorem QD3 : T.at 129 = some Qrw := by kernel_rfl
theorem QOY : T.at 130 = some Quc := by kernel_rfl
theorem QDF : T.at 131 = some QrJ := by kernel_rfl
theorem QDX : T.at 132 = some Qrh := by kernel_rfl
theorem QDU : T.at 133 = some Qrk := by kernel_rfl
theorem QIF : T.at 134 = some Quj := by kernel_rfl
theorem QOw : T.at 135 = some Qur := by kernel_rfl
theorem QH3 : T.at 136 = some QtM := by kernel_rfl
theorem QIY : T.at 137 = some Qu5 := by kernel_rfl
theorem QDx : T.at 138 = some Qru := by kernel_rfl
theorem QHU : T.at 139 = some Qt1 := by kernel_rfl
theorem QDl : T.at 140 = some Qrp := by kernel_rfl
theorem QOr : T.at 141 = some QtP := by kernel_rfl
theorem QNB : T.at 142 = some QtT := by kernel_rfl
theorem QKR : T.at 143 = some Qtf := by kernel_rfl
theorem QN9 : T.at 144 = some QtH := by kernel_rfl
theorem QDr : T.at 147 = some QrE := by kernel_rfl
theorem QPM : T.at 148 = some Qtn := by kernel_rfl
theorem QD7 : T.at 149 = some QpU := by kernel_rfl
theorem QMT : T.at 150 = some QuC := by kernel_rfl
theorem Qor : T.at 154 = some QiW := by kernel_rfl
theorem QKD : T.at 155 = some Qts := by kernel_rfl
theorem QO4 : T.at 156 = some QtK := by kernel_rfl
theorem QDq : T.at 157 = some Qrr := by kernel_rfl
theorem QNe : T.at 158 = some QuO := by kernel_rfl
theorem QDJ : T.at 159 = some QqD := by kernel_rfl
theorem QM6 : T.at 160 = some Qun := by kernel_rfl
theorem QJI : T.at 161 = some QtQ := by kernel_rfl
theorem QJt : T.at 162 = some QtB := by kernel_rfl
theorem Qtc : T.at 163 = some Ql8 := by kernel_rfl
theorem QDM : T.at 164 = some QqW := by kernel_rfl
theorem QDY : T.at 165 = some QqX := by kernel_rfl
theorem QDi : T.at 166 = some QpX := by kernel_rfl
theorem QxJ : T.at 167 = some Qon := by kernel_rfl
theorem Qy3 : T.at 168 = some Qog := by kernel_rfl
theorem QDj : T.at 169 = some QqY := by kernel_rfl
theorem QDg : T.at 170 = some Qq7 := by kernel_rfl
theorem Quu : T.at 171 = some QmJ := by kernel_rfl
theorem QDt : T.at 172 = some Qqs := by kernel_rfl
theorem QJr : T.at 173 = some Quz := by kernel_rfl
theorem QDa : T.at 176 = some Qqa := by kernel_rfl
theorem QN6 : T.at 177 = some QuN := by kernel_rfl
theorem QDA : T.at 178 = some Qqm := by kernel_rfl
theorem QD2 : T.at 179 = some QqE := by kernel_rfl
theorem QDv : T.at 180 = some QqF := by kernel_rfl
theorem QDV : T.at 181 = some Qp6 := by kernel_rfl
theorem QKE : T.at 182 = some QuI := by kernel_rfl
theorem QEb : T.at 183 = some Qqn := by kernel_rfl
theorem QPQ : T.at 184 = some Qtq := by kernel_rfl
theorem QNF : T.at 185 = some Qus := by kernel_rfl
theorem QDs : T.at 186 = some QqB := by kernel_rfl
theorem QOR : T.at 187 = some QuS := by kernel_rfl
theorem QIA : T.at 188 = some Que := by kernel_rfl
theorem QMN : T.at 189 = some Qt3 := by kernel_rfl
theorem QDf : T.at 190 = some Qqd := by kernel_rfl
theorem QEd : T.at 195 = some Qp7 := by kernel_rfl
theorem QJz : T.at 199 = some Qup := by kernel_rfl
theorem QNP : T.at 200 = some Qtv := by kernel_rfl
theorem QK6 : T.at 201 = some Qtk := by kernel_rfl
theorem QIg : T.at 202 = some Quo := by kernel_rfl
theorem QNk : T.at 203 = some QuZ := by kernel_rfl
theorem QII : T.at 204 = some Qtp := by kernel_rfl
theorem QJZ : T.at 205 = some Qu8 := by kernel_rfl
theorem QPA : T.at 206 = some Quv := by kernel_rfl
theorem QLL : T.at 207 = some Qug := by kernel_rfl
theorem QOo : T.at 208 = some Qti := by kernel_rfl
theorem QIT : T.at 209 = some QuB := by kernel_rfl
theorem QDN : T.at 210 = some Qqk := by kernel_rfl
theorem QDn : T.at 211 = some Qqb := by kernel_rfl
theorem QDE : T.at 212 = some Qri := by kernel_rfl
theorem QM7 : T.at 213 = some Qtl := by kernel_rfl
theorem QDy : T.at 225 = some QpT := by kernel_rfl
theorem QH8 : T.at 226 = some Qtx := by kernel_rfl
theorem QDD : T.at 231 = some Qp9 := by kernel_rfl
theorem Qul : T.at 232 = some QmQ := by kernel_rfl
theorem QMR : T.at 233 = some Qut := by kernel_rfl
theorem QOy : T.at 234 = some QtE := by kernel_rfl
theorem QDb : T.at 235 = some Qqp := by kernel_rfl
theorem Qwo : T.at 244 = some QoE := by kernel_rfl
end Go.Proofs.YtponohekgnklkaaGreat
