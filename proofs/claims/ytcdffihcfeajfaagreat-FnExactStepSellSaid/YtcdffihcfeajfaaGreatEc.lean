import Derived.Test.YtcdffihcfeajfaaGreatEvB
import Derived.Test.YtcdffihcfeajfaaGreatFn
import Derived.Test.YtcdffihcfeajfaaGreatProg
import Derived.KernelRfl
namespace Go.Proofs.YtcdffihcfeajfaaGreat
open Go Go.Proofs Go.Proofs.YtcdffihcfeajfaaGreat.Am
set_option maxHeartbeats 4000000
set_option linter.unusedVariables false
set_option linter.unusedSimpArgs false
set_option linter.defProp false
set_option maxRecDepth 100000
def Qt (x : Int) : List AV := [.i .i64 x]
theorem QjH (x : Int) : Qt x = [.i .i64 x] := _root_.id rfl
instance (x : Int) : EncR Qt [.i .i64 x] x := ⟨rfl⟩
theorem Qzd (xs : List Int) : QB (xs.map Qt) = xs.map Qt := QaF (fun x => by simp only [QjH, Vh, VF]) xs
theorem QAw (xs : List Int) : QO (xs.map Qt) = true := JX (fun x => by simp only [QjH, VX, AV.clean, Bool.and_self]) xs
theorem QyA {R : List (List AV)} {xs : List Int} (i : Int) [h : EncL Qt R xs] : inb R i = inb xs i := by rw [h.eq, QoE]
theorem QA6 {R : List (List AV)} {xs : List Int} (i : Int) [h : EncL Qt R xs] (hi : inb xs i = true) : QF R i.toNat = Qt (gt xs i) := by rw [h.eq, QpM xs i hi]
theorem Qzn (xs : List Int) : Qab (xs.map Qt) = true := QlP (fun x => by rw [QjH]; rfl) xs
def QnL (x : Int) : List AV := [.i .u8 x]
theorem Qn5 (x : Int) : QnL x = [.i .u8 x] := _root_.id rfl
instance (x : Int) : EncR QnL [.i .u8 x] x := ⟨rfl⟩
theorem QF7 (xs : List Int) : QB (xs.map QnL) = xs.map QnL := QaF (fun x => by simp only [Qn5, Vh, VF]) xs
theorem QG4 (xs : List Int) : QO (xs.map QnL) = true := JX (fun x => by simp only [Qn5, VX, AV.clean, Bool.and_self]) xs
theorem QHd {R : List (List AV)} {xs : List Int} (i : Int) [h : EncL QnL R xs] : inb R i = inb xs i := by rw [h.eq, QoE]
theorem QKm {R : List (List AV)} {xs : List Int} (i : Int) [h : EncL QnL R xs] (hi : inb xs i = true) : QF R i.toNat = QnL (gt xs i) := by rw [h.eq, QpM xs i hi]
theorem QFd (xs : List Int) : Qab (xs.map QnL) = true := QlP (fun x => by rw [Qn5]; rfl) xs
def c_b (x : Bool) : List AV := [.b x]
theorem Qq9 (x : Bool) : c_b x = [.b x] := _root_.id rfl
instance (x : Bool) : EncR c_b [.b x] x := ⟨rfl⟩
theorem QNN (xs : List Bool) : QB (xs.map c_b) = xs.map c_b := QaF (fun x => by simp only [Qq9, Vh, VF]) xs
theorem QLn (xs : List Bool) : QO (xs.map c_b) = true := JX (fun x => by simp only [Qq9, VX, AV.clean, Bool.and_self]) xs
theorem QNM {R : List (List AV)} {xs : List Bool} (i : Int) [h : EncL c_b R xs] : inb R i = inb xs i := by rw [h.eq, QoE]
theorem QQe {R : List (List AV)} {xs : List Bool} (i : Int) [h : EncL c_b R xs] (hi : inb xs i = true) : QF R i.toNat = c_b (gt xs i) := by rw [h.eq, QpM xs i hi]
theorem QLS (xs : List Bool) : Qab (xs.map c_b) = true := QlP (fun x => by rw [Qq9]; rfl) xs
def c_s (x : List UInt8) : List AV := [.s x]
theorem Qrp (x : List UInt8) : c_s x = [.s x] := _root_.id rfl
instance (x : List UInt8) : EncR c_s [.s x] x := ⟨rfl⟩
theorem QQ1 (xs : List (List UInt8)) : QB (xs.map c_s) = xs.map c_s := QaF (fun x => by simp only [Qrp, Vh, VF]) xs
theorem QKS (xs : List (List UInt8)) : QO (xs.map c_s) = true := JX (fun x => by simp only [Qrp, VX, AV.clean, Bool.and_self]) xs
theorem QLW {R : List (List AV)} {xs : List (List UInt8)} (i : Int) [h : EncL c_s R xs] : inb R i = inb xs i := by rw [h.eq, QoE]
theorem QPm {R : List (List AV)} {xs : List (List UInt8)} (i : Int) [h : EncL c_s R xs] (hi : inb xs i = true) : QF R i.toNat = c_s (gt xs i) := by rw [h.eq, QpM xs i hi]
theorem QLb (xs : List (List UInt8)) : Qab (xs.map c_s) = true := QlP (fun x => by rw [Qrp]; rfl) xs
def Qgo (x : Thing) : List AV := [.i .i64 x.Id, .i .i64 x.Kind, .i .i64 x.Colour, .i .i64 x.Size, .i .i64 x.Worth]
theorem Qj4 (x : Thing) : Qgo x = [.i .i64 x.Id, .i .i64 x.Kind, .i .i64 x.Colour, .i .i64 x.Size, .i .i64 x.Worth] := _root_.id rfl
instance (yxId : Int) (yxKind : Int) (yxColour : Int) (yxSize : Int) (yxWorth : Int)  : EncR Qgo [.i .i64 yxId, .i .i64 yxKind, .i .i64 yxColour, .i .i64 yxSize, .i .i64 yxWorth] (⟨yxId, yxKind, yxColour, yxSize, yxWorth⟩ : Thing) := ⟨by rfl⟩
theorem QtE (xs : List Thing) : QB (xs.map Qgo) = xs.map Qgo := QaF (fun x => by simp only [Qj4, Vh, VF]) xs
theorem Qtd (xs : List Thing) : QO (xs.map Qgo) = true := JX (fun x => by simp only [Qj4, VX, AV.clean, Bool.and_self]) xs
theorem QtG (x : Thing) : (⟨x.Id, x.Kind, x.Colour, x.Size, x.Worth⟩ : Thing) = x := _root_.id rfl
def Qp (x : Find) : List AV := [.i .i64 x.Thing.Id, .i .i64 x.Thing.Kind, .i .i64 x.Thing.Colour, .i .i64 x.Thing.Size, .i .i64 x.Thing.Worth, .i .i64 x.Place, .i .i64 x.At, .i .i64 x.Finder]
theorem QnI (x : Find) : Qp x = [.i .i64 x.Thing.Id, .i .i64 x.Thing.Kind, .i .i64 x.Thing.Colour, .i .i64 x.Thing.Size, .i .i64 x.Thing.Worth, .i .i64 x.Place, .i .i64 x.At, .i .i64 x.Finder] := _root_.id rfl
instance (yxThingxId : Int) (yxThingxKind : Int) (yxThingxColour : Int) (yxThingxSize : Int) (yxThingxWorth : Int) (yxPlace : Int) (yxAt : Int) (yxFinder : Int)  : EncR Qp [.i .i64 yxThingxId, .i .i64 yxThingxKind, .i .i64 yxThingxColour, .i .i64 yxThingxSize, .i .i64 yxThingxWorth, .i .i64 yxPlace, .i .i64 yxAt, .i .i64 yxFinder] (⟨⟨yxThingxId, yxThingxKind, yxThingxColour, yxThingxSize, yxThingxWorth⟩, yxPlace, yxAt, yxFinder⟩ : Find) := ⟨by rfl⟩
theorem QrB (xs : List Find) : QB (xs.map Qp) = xs.map Qp := QaF (fun x => by simp only [QnI, Vh, VF]) xs
theorem QrT (xs : List Find) : QO (xs.map Qp) = true := JX (fun x => by simp only [QnI, VX, AV.clean, Bool.and_self]) xs
theorem Qvy (x : Find) : (⟨x.Thing, x.Place, x.At, x.Finder⟩ : Find) = x := _root_.id rfl
def Q4 (x : Mark) : List AV := [.i .i64 x.Question, .i .i64 x.Answer]
theorem Qnz (x : Mark) : Q4 x = [.i .i64 x.Question, .i .i64 x.Answer] := _root_.id rfl
instance (yxQuestion : Int) (yxAnswer : Int)  : EncR Q4 [.i .i64 yxQuestion, .i .i64 yxAnswer] (⟨yxQuestion, yxAnswer⟩ : Mark) := ⟨by rfl⟩
theorem Qq5 (xs : List Mark) : QB (xs.map Q4) = xs.map Q4 := QaF (fun x => by simp only [Qnz, Vh, VF]) xs
theorem QrS (xs : List Mark) : QO (xs.map Q4) = true := JX (fun x => by simp only [Qnz, VX, AV.clean, Bool.and_self]) xs
theorem QxB (x : Mark) : (⟨x.Question, x.Answer⟩ : Mark) = x := _root_.id rfl
def Qe (x : Secret) : List AV := [.i .i64 x.Thing, .imm 2 (x.Marks.map Q4), .i .i64 x.Salt]
theorem QmT (x : Secret) : Qe x = [.i .i64 x.Thing, .imm 2 (x.Marks.map Q4), .i .i64 x.Salt] := _root_.id rfl
instance (yxThing : Int) {R1} {yxMarks : List Mark} (yxSalt : Int) [H1 : EncL Q4 R1 yxMarks] : EncR Qe [.i .i64 yxThing, .imm 2 R1, .i .i64 yxSalt] (⟨yxThing, yxMarks, yxSalt⟩ : Secret) := ⟨by obtain ⟨rfl⟩ := H1; rfl⟩
def QP (x : Secret) : List AV := [.i .i64 x.Thing, .own 2 (x.Marks.map Q4), .i .i64 x.Salt]
theorem QgB (x : Secret) : QP x = [.i .i64 x.Thing, .own 2 (x.Marks.map Q4), .i .i64 x.Salt] := _root_.id rfl
instance (yxThing : Int) {R1} {yxMarks : List Mark} (yxSalt : Int) [H1 : EncL Q4 R1 yxMarks] : EncR QP [.i .i64 yxThing, .own 2 R1, .i .i64 yxSalt] (⟨yxThing, yxMarks, yxSalt⟩ : Secret) := ⟨by obtain ⟨rfl⟩ := H1; rfl⟩
theorem QmX (xs : List Secret) : QB (xs.map QP) = xs.map Qe := QaF (fun x => by simp only [QgB, QmT, Vh, VF, Qq5]) xs
theorem Qmx (xs : List Secret) : QO (xs.map QP) = true := JX (fun x => by simp only [QgB, VX, AV.clean, Bool.and_self, QrS]) xs
theorem QsZ (x : Secret) : (⟨x.Thing, x.Marks, x.Salt⟩ : Secret) = x := _root_.id rfl
def Ql (x : Slot) : List AV := [.i .i64 x.Id, .i .i64 x.Size, .i .i64 x.Thing]
theorem Qnm (x : Slot) : Ql x = [.i .i64 x.Id, .i .i64 x.Size, .i .i64 x.Thing] := _root_.id rfl
instance (yxId : Int) (yxSize : Int) (yxThing : Int)  : EncR Ql [.i .i64 yxId, .i .i64 yxSize, .i .i64 yxThing] (⟨yxId, yxSize, yxThing⟩ : Slot) := ⟨by rfl⟩
theorem QrK (xs : List Slot) : QB (xs.map Ql) = xs.map Ql := QaF (fun x => by simp only [Qnm, Vh, VF]) xs
theorem Qre (xs : List Slot) : QO (xs.map Ql) = true := JX (fun x => by simp only [Qnm, VX, AV.clean, Bool.and_self]) xs
theorem Qwp (x : Slot) : (⟨x.Id, x.Size, x.Thing⟩ : Slot) = x := _root_.id rfl
def Qc (x : Claim) : List AV := [.i .i64 x.Id, .i .i64 x.Who, .i .i64 x.Thing, .i .i64 x.At, .i .i64 x.State]
theorem QlB (x : Claim) : Qc x = [.i .i64 x.Id, .i .i64 x.Who, .i .i64 x.Thing, .i .i64 x.At, .i .i64 x.State] := _root_.id rfl
instance (yxId : Int) (yxWho : Int) (yxThing : Int) (yxAt : Int) (yxState : Int)  : EncR Qc [.i .i64 yxId, .i .i64 yxWho, .i .i64 yxThing, .i .i64 yxAt, .i .i64 yxState] (⟨yxId, yxWho, yxThing, yxAt, yxState⟩ : Claim) := ⟨by rfl⟩
theorem Qo2 (xs : List Claim) : QB (xs.map Qc) = xs.map Qc := QaF (fun x => by simp only [QlB, Vh, VF]) xs
theorem QoC (xs : List Claim) : QO (xs.map Qc) = true := JX (fun x => by simp only [QlB, VX, AV.clean, Bool.and_self]) xs
theorem Qt6 (x : Claim) : (⟨x.Id, x.Who, x.Thing, x.At, x.State⟩ : Claim) = x := _root_.id rfl
def Qk (x : Trial) : List AV := [.i .i64 x.Claim, .i .i64 x.Asked, .i .i64 x.Right, .i .i64 x.Wrong]
theorem QlC (x : Trial) : Qk x = [.i .i64 x.Claim, .i .i64 x.Asked, .i .i64 x.Right, .i .i64 x.Wrong] := _root_.id rfl
instance (yxClaim : Int) (yxAsked : Int) (yxRight : Int) (yxWrong : Int)  : EncR Qk [.i .i64 yxClaim, .i .i64 yxAsked, .i .i64 yxRight, .i .i64 yxWrong] (⟨yxClaim, yxAsked, yxRight, yxWrong⟩ : Trial) := ⟨by rfl⟩
theorem Qox (xs : List Trial) : QB (xs.map Qk) = xs.map Qk := QaF (fun x => by simp only [QlC, Vh, VF]) xs
theorem QpK (xs : List Trial) : QO (xs.map Qk) = true := JX (fun x => by simp only [QlC, VX, AV.clean, Bool.and_self]) xs
theorem QuI (x : Trial) : (⟨x.Claim, x.Asked, x.Right, x.Wrong⟩ : Trial) = x := _root_.id rfl
def Qn (x : Hand) : List AV := [.i .i64 x.Thing, .i .i64 x.Holder, .i .i64 x.Who, .i .i64 x.At, .i .i64 x.Seal]
theorem Qnd (x : Hand) : Qn x = [.i .i64 x.Thing, .i .i64 x.Holder, .i .i64 x.Who, .i .i64 x.At, .i .i64 x.Seal] := _root_.id rfl
instance (yxThing : Int) (yxHolder : Int) (yxWho : Int) (yxAt : Int) (yxSeal : Int)  : EncR Qn [.i .i64 yxThing, .i .i64 yxHolder, .i .i64 yxWho, .i .i64 yxAt, .i .i64 yxSeal] (⟨yxThing, yxHolder, yxWho, yxAt, yxSeal⟩ : Hand) := ⟨by rfl⟩
theorem Qra (xs : List Hand) : QB (xs.map Qn) = xs.map Qn := QaF (fun x => by simp only [Qnd, Vh, VF]) xs
theorem Qq6 (xs : List Hand) : QO (xs.map Qn) = true := JX (fun x => by simp only [Qnd, VX, AV.clean, Bool.and_self]) xs
theorem QwS (x : Hand) : (⟨x.Thing, x.Holder, x.Who, x.At, x.Seal⟩ : Hand) = x := _root_.id rfl
def Qg (x : Entry) : List AV := [.i .i64 x.From, .i .i64 x.To, .i .i64 x.Cents, .i .i64 x.At]
theorem Qkx (x : Entry) : Qg x = [.i .i64 x.From, .i .i64 x.To, .i .i64 x.Cents, .i .i64 x.At] := _root_.id rfl
instance (yxFrom : Int) (yxTo : Int) (yxCents : Int) (yxAt : Int)  : EncR Qg [.i .i64 yxFrom, .i .i64 yxTo, .i .i64 yxCents, .i .i64 yxAt] (⟨yxFrom, yxTo, yxCents, yxAt⟩ : Entry) := ⟨by rfl⟩
theorem Qpq (xs : List Entry) : QB (xs.map Qg) = xs.map Qg := QaF (fun x => by simp only [Qkx, Vh, VF]) xs
theorem QoX (xs : List Entry) : QO (xs.map Qg) = true := JX (fun x => by simp only [Qkx, VX, AV.clean, Bool.and_self]) xs
theorem Qt4 (x : Entry) : (⟨x.From, x.To, x.Cents, x.At⟩ : Entry) = x := _root_.id rfl
def Q0 (x : Bid) : List AV := [.i .i64 x.Who, .i .i64 x.Cents, .i .i64 x.Seal]
theorem QnB (x : Bid) : Q0 x = [.i .i64 x.Who, .i .i64 x.Cents, .i .i64 x.Seal] := _root_.id rfl
instance (yxWho : Int) (yxCents : Int) (yxSeal : Int)  : EncR Q0 [.i .i64 yxWho, .i .i64 yxCents, .i .i64 yxSeal] (⟨yxWho, yxCents, yxSeal⟩ : Bid) := ⟨by rfl⟩
theorem Qy7 (xs : List Bid) : QB (xs.map Q0) = xs.map Q0 := QaF (fun x => by simp only [QnB, Vh, VF]) xs
theorem QAS (xs : List Bid) : QO (xs.map Q0) = true := JX (fun x => by simp only [QnB, VX, AV.clean, Bool.and_self]) xs
theorem Qzk (x : Bid) : (⟨x.Who, x.Cents, x.Seal⟩ : Bid) = x := _root_.id rfl
theorem Qz6 (xs : List Bid) : Qab (xs.map Q0) = true := QlP (fun x => by rw [QnB]; rfl) xs
def Qin (x : House) : List AV := [.i .i64 x.No, .imm 8 (x.Finds.map Qp), .imm 3 (x.Secrets.map Qe), .imm 3 (x.Slots.map Ql), .imm 5 (x.Claims.map Qc), .imm 4 (x.Trials.map Qk), .imm 5 (x.Chain.map Qn), .imm 4 (x.Book.map Qg), .i .i64 x.Now]
theorem QkN (x : House) : Qin x = [.i .i64 x.No, .imm 8 (x.Finds.map Qp), .imm 3 (x.Secrets.map Qe), .imm 3 (x.Slots.map Ql), .imm 5 (x.Claims.map Qc), .imm 4 (x.Trials.map Qk), .imm 5 (x.Chain.map Qn), .imm 4 (x.Book.map Qg), .i .i64 x.Now] := _root_.id rfl
instance (yxNo : Int) {R1} {yxFinds : List Find} {R2} {yxSecrets : List Secret} {R3} {yxSlots : List Slot} {R4} {yxClaims : List Claim} {R5} {yxTrials : List Trial} {R6} {yxChain : List Hand} {R7} {yxBook : List Entry} (yxNow : Int) [H1 : EncL Qp R1 yxFinds] [H2 : EncL Qe R2 yxSecrets] [H3 : EncL Ql R3 yxSlots] [H4 : EncL Qc R4 yxClaims] [H5 : EncL Qk R5 yxTrials] [H6 : EncL Qn R6 yxChain] [H7 : EncL Qg R7 yxBook] : EncR Qin [.i .i64 yxNo, .imm 8 R1, .imm 3 R2, .imm 3 R3, .imm 5 R4, .imm 4 R5, .imm 5 R6, .imm 4 R7, .i .i64 yxNow] (⟨yxNo, yxFinds, yxSecrets, yxSlots, yxClaims, yxTrials, yxChain, yxBook, yxNow⟩ : House) := ⟨by obtain ⟨rfl⟩ := H1; obtain ⟨rfl⟩ := H2; obtain ⟨rfl⟩ := H3; obtain ⟨rfl⟩ := H4; obtain ⟨rfl⟩ := H5; obtain ⟨rfl⟩ := H6; obtain ⟨rfl⟩ := H7; rfl⟩
def Z4 (x : House) : List AV := [.i .i64 x.No, .own 8 (x.Finds.map Qp), .own 3 (x.Secrets.map QP), .own 3 (x.Slots.map Ql), .own 5 (x.Claims.map Qc), .own 4 (x.Trials.map Qk), .own 5 (x.Chain.map Qn), .own 4 (x.Book.map Qg), .i .i64 x.Now]
theorem Qic (x : House) : Z4 x = [.i .i64 x.No, .own 8 (x.Finds.map Qp), .own 3 (x.Secrets.map QP), .own 3 (x.Slots.map Ql), .own 5 (x.Claims.map Qc), .own 4 (x.Trials.map Qk), .own 5 (x.Chain.map Qn), .own 4 (x.Book.map Qg), .i .i64 x.Now] := _root_.id rfl
instance (yxNo : Int) {R1} {yxFinds : List Find} {R2} {yxSecrets : List Secret} {R3} {yxSlots : List Slot} {R4} {yxClaims : List Claim} {R5} {yxTrials : List Trial} {R6} {yxChain : List Hand} {R7} {yxBook : List Entry} (yxNow : Int) [H1 : EncL Qp R1 yxFinds] [H2 : EncL QP R2 yxSecrets] [H3 : EncL Ql R3 yxSlots] [H4 : EncL Qc R4 yxClaims] [H5 : EncL Qk R5 yxTrials] [H6 : EncL Qn R6 yxChain] [H7 : EncL Qg R7 yxBook] : EncR Z4 [.i .i64 yxNo, .own 8 R1, .own 3 R2, .own 3 R3, .own 5 R4, .own 4 R5, .own 5 R6, .own 4 R7, .i .i64 yxNow] (⟨yxNo, yxFinds, yxSecrets, yxSlots, yxClaims, yxTrials, yxChain, yxBook, yxNow⟩ : House) := ⟨by obtain ⟨rfl⟩ := H1; obtain ⟨rfl⟩ := H2; obtain ⟨rfl⟩ := H3; obtain ⟨rfl⟩ := H4; obtain ⟨rfl⟩ := H5; obtain ⟨rfl⟩ := H6; obtain ⟨rfl⟩ := H7; rfl⟩
theorem QuA (xs : List House) : QB (xs.map Z4) = xs.map Qin := QaF (fun x => by simp only [Qic, QkN, Vh, VF, Qo2, Qpq, QrB, Qra, QmX, QrK, Qox]) xs
theorem QtW (xs : List House) : QO (xs.map Z4) = true := JX (fun x => by simp only [Qic, VX, AV.clean, Bool.and_self, QoC, QoX, QrT, Qq6, Qmx, Qre, QpK]) xs
theorem QtJ (x : House) : (⟨x.No, x.Finds, x.Secrets, x.Slots, x.Claims, x.Trials, x.Chain, x.Book, x.Now⟩ : House) = x := _root_.id rfl
def Qgi (x : Share) : List AV := [.i .i64 x.Who, .i .i64 x.Cents]
theorem Qki (x : Share) : Qgi x = [.i .i64 x.Who, .i .i64 x.Cents] := _root_.id rfl
instance (yxWho : Int) (yxCents : Int)  : EncR Qgi [.i .i64 yxWho, .i .i64 yxCents] (⟨yxWho, yxCents⟩ : Share) := ⟨by rfl⟩
theorem QuL (xs : List Share) : QB (xs.map Qgi) = xs.map Qgi := QaF (fun x => by simp only [Qki, Vh, VF]) xs
theorem QuR (xs : List Share) : QO (xs.map Qgi) = true := JX (fun x => by simp only [Qki, VX, AV.clean, Bool.and_self]) xs
theorem Qt7 (x : Share) : (⟨x.Who, x.Cents⟩ : Share) = x := _root_.id rfl
def QFS := And.intro @QjH <| And.intro @Qzd <| And.intro @QAw <| And.intro @QyA <| And.intro @QA6 <| And.intro @Qzn <| And.intro @Qn5 <| And.intro @QF7 <| And.intro @QG4 <| And.intro @QHd <| And.intro @QKm <| And.intro @QFd <| And.intro @Qq9 <| And.intro @QNN <| And.intro @QLn <| And.intro @QNM <| And.intro @QQe <| And.intro @QLS <| And.intro @Qrp <| And.intro @QQ1 <| And.intro @QKS <| And.intro @QLW <| And.intro @QPm <| And.intro @QLb <| And.intro @Qj4 <| And.intro @QtE <| And.intro @Qtd <| And.intro @QtG <| And.intro @QnI <| And.intro @QrB <| And.intro @QrT <| And.intro @Qvy <| And.intro @Qnz <| And.intro @Qq5 <| And.intro @QrS <| And.intro @QxB <| And.intro @QmT <| And.intro @QmX <| And.intro @Qmx <| And.intro @QsZ <| And.intro @QgB <| And.intro @Qnm <| And.intro @QrK <| And.intro @Qre <| And.intro @Qwp <| And.intro @QlB <| And.intro @Qo2 <| And.intro @QoC <| And.intro @Qt6 <| And.intro @QlC <| And.intro @Qox <| And.intro @QpK <| And.intro @QuI <| And.intro @Qnd <| And.intro @Qra <| And.intro @Qq6 <| And.intro @QwS <| And.intro @Qkx <| And.intro @Qpq <| And.intro @QoX <| And.intro @Qt4 <| And.intro @QnB <| And.intro @Qy7 <| And.intro @QAS <| And.intro @Qzk <| And.intro @Qz6 <| And.intro @QkN <| And.intro @QuA <| And.intro @QtW <| And.intro @QtJ <| And.intro @Qic <| And.intro @Qki <| And.intro @QuL <| And.intro @QuR @Qt7
theorem ty0 : flT Tryz.prog 160 = false := by kernel_rfl
theorem ty1 : Qdv Tryz.prog 24 = true := by kernel_rfl
theorem ty2 : Qdv Tryz.prog 26 = true := by kernel_rfl
theorem ty3 : Qdv Tryz.prog 27 = true := by kernel_rfl
theorem ty4 : Qdv Tryz.prog 28 = true := by kernel_rfl
theorem ty5 : Qdv Tryz.prog 29 = true := by kernel_rfl
theorem ty6 : Qdv Tryz.prog 30 = true := by kernel_rfl
theorem ty7 : Qdv Tryz.prog 68 = true := by kernel_rfl
theorem ty8 : Qdv Tryz.prog 76 = true := by kernel_rfl
theorem ty9 : slz Tryz.prog 9 160 = [0, 2, 0] := by kernel_rfl
theorem QQs : Qdb Tryz.prog 175 = [0, 0] := by kernel_rfl
theorem QNO : Qdb Tryz.prog 215 = [0] := by kernel_rfl
theorem QKX : Qdb Tryz.prog 237 = [0] := by kernel_rfl
theorem QLa : Qdb Tryz.prog 24 = [0, 0, 0, 0, 0, 0, 0, 0] := by kernel_rfl
theorem QMn : Qdb Tryz.prog 25 = [0, 2, 0] := by kernel_rfl
theorem QRd : Qdb Tryz.prog 26 = [0, 0, 0] := by kernel_rfl
theorem QN6 : Qdb Tryz.prog 27 = [0, 0, 0, 0, 0] := by kernel_rfl
theorem QNU : Qdb Tryz.prog 28 = [0, 0, 0, 0] := by kernel_rfl
theorem QMr : Qdb Tryz.prog 29 = [0, 0, 0, 0, 0] := by kernel_rfl
theorem QQV : Qdb Tryz.prog 30 = [0, 0, 0, 0] := by kernel_rfl
theorem QLU : Qdb Tryz.prog 68 = [0, 0] := by kernel_rfl
theorem QOk : Qdb Tryz.prog 76 = [0, 0, 0] := by kernel_rfl
theorem QMv : tb Tryz.prog 103 = some 24 := by kernel_rfl
theorem QQS : tb Tryz.prog 136 = some 40 := by kernel_rfl
theorem QKR : tb Tryz.prog 139 = some 32 := by kernel_rfl
theorem QNa : tb Tryz.prog 153 = some 32 := by kernel_rfl
theorem QRi : tb Tryz.prog 160 = some 40 := by kernel_rfl
theorem QO0 : tb Tryz.prog 166 = some 40 := by kernel_rfl
theorem QPY : tb Tryz.prog 169 = some 16 := by kernel_rfl
theorem QOF : tb Tryz.prog 180 = some 24 := by kernel_rfl
theorem QMs : tb Tryz.prog 3 = some 8 := by kernel_rfl
theorem QMK : tb Tryz.prog 66 = some 64 := by kernel_rfl
theorem QNA : tbd Tryz.prog 136 = .st [.i .i64 0, .i .i64 0, .i .i64 0, .i .i64 0, .i .i64 0] [(0, 1), (1, 1), (2, 1), (3, 1), (4, 1)] := by kernel_rfl
theorem QQp : tbd Tryz.prog 153 = .st [.i .i64 0, .i .i64 0, .i .i64 0, .i .i64 0] [(0, 1), (1, 1), (2, 1), (3, 1)] := by kernel_rfl
theorem QL9 : tbd Tryz.prog 160 = .st [.i .i64 0, .nil, .i .i64 0] [(0, 1), (1, 1), (2, 1)] := by kernel_rfl
theorem QQh : tbd Tryz.prog 166 = .st [.i .i64 0, .i .i64 0, .i .i64 0, .i .i64 0, .i .i64 0] [(0, 1), (1, 1), (2, 1), (3, 1), (4, 1)] := by kernel_rfl
theorem QQi : tbd Tryz.prog 178 = .st [.i .i64 0, .i .i64 0] [(0, 1), (1, 1)] := by kernel_rfl
theorem QLk : tbd Tryz.prog 32 = .st [.i .i64 0, .nil, .nil, .nil, .nil, .nil, .nil, .nil, .i .i64 0] [(0, 1), (1, 1), (2, 1), (3, 1), (4, 1), (5, 1), (6, 1), (7, 1), (8, 1)] := by kernel_rfl
theorem QKU : tbd Tryz.prog 66 = .st [.i .i64 0, .i .i64 0, .i .i64 0, .i .i64 0, .i .i64 0, .i .i64 0, .i .i64 0, .i .i64 0] [(0, 5), (5, 1), (6, 1), (7, 1)] := by kernel_rfl
theorem QOX : Qjz Tryz.prog 4 = some [.t] := by kernel_rfl
theorem QLQ : tfo Tryz.prog 103 0 = some (0, .one) := by kernel_rfl
theorem QMS : tfo Tryz.prog 103 1 = some (1, .one) := by kernel_rfl
theorem QQ2 : tfo Tryz.prog 103 2 = some (2, .one) := by kernel_rfl
theorem QPS : tfo Tryz.prog 105 0 = some (0, .one) := by kernel_rfl
theorem QQC : tfo Tryz.prog 105 1 = some (1, .one) := by kernel_rfl
theorem QK8 : tfo Tryz.prog 105 2 = some (2, .one) := by kernel_rfl
theorem QL0 : tfo Tryz.prog 136 0 = some (0, .one) := by kernel_rfl
theorem QOU : tfo Tryz.prog 136 1 = some (1, .one) := by kernel_rfl
theorem QM0 : tfo Tryz.prog 136 2 = some (2, .one) := by kernel_rfl
theorem QLJ : tfo Tryz.prog 136 3 = some (3, .one) := by kernel_rfl
theorem QMe : tfo Tryz.prog 136 4 = some (4, .one) := by kernel_rfl
theorem QL2 : tfo Tryz.prog 139 0 = some (0, .one) := by kernel_rfl
theorem QRj : tfo Tryz.prog 139 1 = some (1, .one) := by kernel_rfl
theorem QNy : tfo Tryz.prog 139 2 = some (2, .one) := by kernel_rfl
theorem QOn : tfo Tryz.prog 139 3 = some (3, .one) := by kernel_rfl
theorem QOy : tfo Tryz.prog 153 0 = some (0, .one) := by kernel_rfl
theorem QQ5 : tfo Tryz.prog 153 1 = some (1, .one) := by kernel_rfl
theorem QMJ : tfo Tryz.prog 153 2 = some (2, .one) := by kernel_rfl
theorem QOK : tfo Tryz.prog 153 3 = some (3, .one) := by kernel_rfl
theorem QPO : tfo Tryz.prog 160 0 = some (0, .one) := by kernel_rfl
theorem QNp : tfo Tryz.prog 160 1 = some (1, .one) := by kernel_rfl
theorem QLB : tfo Tryz.prog 160 2 = some (2, .one) := by kernel_rfl
theorem QO9 : tfo Tryz.prog 166 0 = some (0, .one) := by kernel_rfl
theorem QMt : tfo Tryz.prog 166 1 = some (1, .one) := by kernel_rfl
theorem QOm : tfo Tryz.prog 166 2 = some (2, .one) := by kernel_rfl
theorem QK5 : tfo Tryz.prog 166 3 = some (3, .one) := by kernel_rfl
theorem QM5 : tfo Tryz.prog 166 4 = some (4, .one) := by kernel_rfl
theorem QP2 : tfo Tryz.prog 169 0 = some (0, .one) := by kernel_rfl
theorem QMU : tfo Tryz.prog 169 1 = some (1, .one) := by kernel_rfl
theorem QP4 : tfo Tryz.prog 171 0 = some (0, .one) := by kernel_rfl
theorem QOC : tfo Tryz.prog 171 1 = some (1, .one) := by kernel_rfl
theorem QN7 : tfo Tryz.prog 178 0 = some (0, .one) := by kernel_rfl
theorem QN0 : tfo Tryz.prog 178 1 = some (1, .one) := by kernel_rfl
theorem QQa : tfo Tryz.prog 180 0 = some (0, .one) := by kernel_rfl
theorem QQr : tfo Tryz.prog 180 1 = some (1, .one) := by kernel_rfl
theorem QOI : tfo Tryz.prog 180 2 = some (2, .one) := by kernel_rfl
theorem QPL : tfo Tryz.prog 182 0 = some (0, .one) := by kernel_rfl
theorem QLV : tfo Tryz.prog 182 1 = some (1, .one) := by kernel_rfl
theorem QN8 : tfo Tryz.prog 182 2 = some (2, .one) := by kernel_rfl
theorem QPz : tfo Tryz.prog 200 0 = some (0, .one) := by kernel_rfl
theorem QMg : tfo Tryz.prog 200 1 = some (1, .one) := by kernel_rfl
theorem QLK : tfo Tryz.prog 200 2 = some (2, .one) := by kernel_rfl
theorem QPK : tfo Tryz.prog 203 0 = some (0, .one) := by kernel_rfl
theorem QMP : tfo Tryz.prog 203 1 = some (1, .one) := by kernel_rfl
theorem QQ6 : tfo Tryz.prog 203 2 = some (2, .one) := by kernel_rfl
theorem QOo : tfo Tryz.prog 203 3 = some (3, .one) := by kernel_rfl
theorem QMo : tfo Tryz.prog 203 4 = some (4, .one) := by kernel_rfl
theorem QOH : tfo Tryz.prog 205 0 = some (0, .one) := by kernel_rfl
theorem QLO : tfo Tryz.prog 205 1 = some (1, .one) := by kernel_rfl
theorem QMM : tfo Tryz.prog 205 2 = some (2, .one) := by kernel_rfl
theorem QOt : tfo Tryz.prog 205 3 = some (3, .one) := by kernel_rfl
theorem QNq : tfo Tryz.prog 207 0 = some (0, .one) := by kernel_rfl
theorem QQv : tfo Tryz.prog 207 1 = some (1, .one) := by kernel_rfl
theorem QNR : tfo Tryz.prog 207 2 = some (2, .one) := by kernel_rfl
theorem QQW : tfo Tryz.prog 207 3 = some (3, .one) := by kernel_rfl
theorem QLZ : tfo Tryz.prog 207 4 = some (4, .one) := by kernel_rfl
theorem QNV : tfo Tryz.prog 209 0 = some (0, .one) := by kernel_rfl
theorem QPI : tfo Tryz.prog 209 1 = some (1, .one) := by kernel_rfl
theorem QPx : tfo Tryz.prog 209 2 = some (2, .one) := by kernel_rfl
theorem QM8 : tfo Tryz.prog 209 3 = some (3, .one) := by kernel_rfl
theorem QF1 : tfo Tryz.prog 32 0 = some (0, .one) := by kernel_rfl
theorem QEh : tfo Tryz.prog 32 1 = some (1, .one) := by kernel_rfl
theorem QHp : tfo Tryz.prog 32 2 = some (2, .one) := by kernel_rfl
theorem QBz : tfo Tryz.prog 32 3 = some (3, .one) := by kernel_rfl
theorem QJB : tfo Tryz.prog 32 4 = some (4, .one) := by kernel_rfl
theorem QIa : tfo Tryz.prog 32 5 = some (5, .one) := by kernel_rfl
theorem QCS : tfo Tryz.prog 32 6 = some (6, .one) := by kernel_rfl
theorem QGt : tfo Tryz.prog 32 7 = some (7, .one) := by kernel_rfl
theorem QJO : tfo Tryz.prog 32 8 = some (8, .one) := by kernel_rfl
theorem QG1 : tfo Tryz.prog 48 0 = some (0, .one) := by kernel_rfl
theorem QIi : tfo Tryz.prog 48 1 = some (1, .one) := by kernel_rfl
theorem QD9 : tfo Tryz.prog 48 2 = some (2, .one) := by kernel_rfl
theorem QKn : tfo Tryz.prog 48 3 = some (3, .one) := by kernel_rfl
theorem QGL : tfo Tryz.prog 48 4 = some (4, .one) := by kernel_rfl
theorem QCQ : tfo Tryz.prog 48 5 = some (5, .one) := by kernel_rfl
theorem QDe : tfo Tryz.prog 48 6 = some (6, .one) := by kernel_rfl
theorem QJ1 : tfo Tryz.prog 48 7 = some (7, .one) := by kernel_rfl
theorem QGs : tfo Tryz.prog 48 8 = some (8, .one) := by kernel_rfl
theorem QCA : tfo Tryz.prog 58 0 = some (0, .one) := by kernel_rfl
theorem QBs : tfo Tryz.prog 58 1 = some (1, .one) := by kernel_rfl
theorem QDj : tfo Tryz.prog 58 2 = some (2, .one) := by kernel_rfl
theorem QCC : tfo Tryz.prog 58 3 = some (3, .one) := by kernel_rfl
theorem QHt : tfo Tryz.prog 58 4 = some (4, .one) := by kernel_rfl
theorem QJm : tfo Tryz.prog 60 0 = some (0, .agg 5) := by kernel_rfl
theorem QCn : tfo Tryz.prog 60 1 = some (5, .one) := by kernel_rfl
theorem QI0 : tfo Tryz.prog 60 2 = some (6, .one) := by kernel_rfl
theorem QBG : tfo Tryz.prog 60 3 = some (7, .one) := by kernel_rfl
theorem QBX : tfo Tryz.prog 64 0 = some (0, .one) := by kernel_rfl
theorem QEq : tfo Tryz.prog 64 1 = some (1, .one) := by kernel_rfl
theorem QE8 : tfo Tryz.prog 64 2 = some (2, .one) := by kernel_rfl
theorem QDL : tfo Tryz.prog 64 3 = some (3, .one) := by kernel_rfl
theorem QB7 : tfo Tryz.prog 64 4 = some (4, .one) := by kernel_rfl
theorem QHx : tfo Tryz.prog 66 0 = some (0, .agg 5) := by kernel_rfl
theorem QCZ : tfo Tryz.prog 66 1 = some (5, .one) := by kernel_rfl
theorem QIB : tfo Tryz.prog 66 2 = some (6, .one) := by kernel_rfl
theorem QFW : tfo Tryz.prog 66 3 = some (7, .one) := by kernel_rfl
theorem QFQ : ti Tryz.prog 175 = .sl 178 2 := by kernel_rfl
theorem QCs : ti Tryz.prog 215 = .sl 4 1 := by kernel_rfl
theorem QEg : ti Tryz.prog 22 = .sl 105 3 := by kernel_rfl
theorem QEL : ti Tryz.prog 237 = .sl 3 1 := by kernel_rfl
theorem QCH : ti Tryz.prog 24 = .sl 66 8 := by kernel_rfl
theorem QHq : ti Tryz.prog 25 = .sl 160 3 := by kernel_rfl
theorem QGk : ti Tryz.prog 26 = .sl 103 3 := by kernel_rfl
theorem QCp : ti Tryz.prog 27 = .sl 136 5 := by kernel_rfl
theorem QI8 : ti Tryz.prog 28 = .sl 139 4 := by kernel_rfl
theorem QJf : ti Tryz.prog 29 = .sl 166 5 := by kernel_rfl
theorem QKv : ti Tryz.prog 30 = .sl 153 4 := by kernel_rfl
theorem QId : ti Tryz.prog 41 = .sl 60 8 := by kernel_rfl
theorem QGU : ti Tryz.prog 42 = .sl 200 3 := by kernel_rfl
theorem QGe : ti Tryz.prog 43 = .sl 203 5 := by kernel_rfl
theorem QJD : ti Tryz.prog 44 = .sl 205 4 := by kernel_rfl
theorem QCk : ti Tryz.prog 45 = .sl 207 5 := by kernel_rfl
theorem QBY : ti Tryz.prog 46 = .sl 209 4 := by kernel_rfl
theorem QGQ : ti Tryz.prog 61 = .sl 171 2 := by kernel_rfl
theorem QB1 : ti Tryz.prog 68 = .sl 169 2 := by kernel_rfl
theorem QBS : ti Tryz.prog 73 = .sl 182 3 := by kernel_rfl
theorem QHa : ti Tryz.prog 76 = .sl 180 3 := by kernel_rfl
theorem QEZ : tk Tryz.prog 103 = .agg 3 := by kernel_rfl
theorem QE5 : tk Tryz.prog 105 = .agg 3 := by kernel_rfl
theorem QG9 : tk Tryz.prog 136 = .agg 5 := by kernel_rfl
theorem QGa : tk Tryz.prog 139 = .agg 4 := by kernel_rfl
theorem QJQ : tk Tryz.prog 153 = .agg 4 := by kernel_rfl
theorem QEv : tk Tryz.prog 160 = .agg 3 := by kernel_rfl
theorem QGb : tk Tryz.prog 166 = .agg 5 := by kernel_rfl
theorem QHs : tk Tryz.prog 169 = .agg 2 := by kernel_rfl
theorem QFT : tk Tryz.prog 171 = .agg 2 := by kernel_rfl
theorem QJp : tk Tryz.prog 180 = .agg 3 := by kernel_rfl
theorem QEj : tk Tryz.prog 182 = .agg 3 := by kernel_rfl
theorem QDp : tk Tryz.prog 200 = .agg 3 := by kernel_rfl
theorem QDM : tk Tryz.prog 203 = .agg 5 := by kernel_rfl
theorem QGR : tk Tryz.prog 205 = .agg 4 := by kernel_rfl
theorem QF3 : tk Tryz.prog 207 = .agg 5 := by kernel_rfl
theorem QH6 : tk Tryz.prog 209 = .agg 4 := by kernel_rfl
theorem QIY : tk Tryz.prog 22 = .one := by kernel_rfl
theorem QH2 : tk Tryz.prog 24 = .one := by kernel_rfl
theorem QHZ : tk Tryz.prog 25 = .one := by kernel_rfl
theorem QFb : tk Tryz.prog 26 = .one := by kernel_rfl
theorem QDV : tk Tryz.prog 27 = .one := by kernel_rfl
theorem QCw : tk Tryz.prog 28 = .one := by kernel_rfl
theorem QH3 : tk Tryz.prog 29 = .one := by kernel_rfl
theorem QH9 : tk Tryz.prog 3 = .one := by kernel_rfl
theorem QH7 : tk Tryz.prog 30 = .one := by kernel_rfl
theorem QDy : tk Tryz.prog 32 = .agg 9 := by kernel_rfl
theorem QKb : tk Tryz.prog 4 = .one := by kernel_rfl
theorem QHU : tk Tryz.prog 41 = .one := by kernel_rfl
theorem QJs : tk Tryz.prog 42 = .one := by kernel_rfl
theorem QKg : tk Tryz.prog 43 = .one := by kernel_rfl
theorem QDK : tk Tryz.prog 44 = .one := by kernel_rfl
theorem QER : tk Tryz.prog 45 = .one := by kernel_rfl
theorem QC7 : tk Tryz.prog 46 = .one := by kernel_rfl
theorem QDi : tk Tryz.prog 48 = .agg 9 := by kernel_rfl
theorem QHA : tk Tryz.prog 58 = .agg 5 := by kernel_rfl
theorem QC0 : tk Tryz.prog 60 = .agg 8 := by kernel_rfl
theorem QJ0 : tk Tryz.prog 61 = .one := by kernel_rfl
theorem QFE : tk Tryz.prog 64 = .agg 5 := by kernel_rfl
theorem QBV : tk Tryz.prog 66 = .agg 8 := by kernel_rfl
theorem QHz : tk Tryz.prog 68 = .one := by kernel_rfl
theorem QHK : Z7 Tryz.prog 237 = true := by kernel_rfl
theorem QFO : Z7 Tryz.prog 24 = true := by kernel_rfl
theorem QHv : Z7 Tryz.prog 25 = true := by kernel_rfl
theorem QC6 : Z7 Tryz.prog 26 = true := by kernel_rfl
theorem QKu : Z7 Tryz.prog 27 = true := by kernel_rfl
theorem QKC : Z7 Tryz.prog 28 = true := by kernel_rfl
theorem QFH : Z7 Tryz.prog 29 = true := by kernel_rfl
theorem QHe : Z7 Tryz.prog 30 = true := by kernel_rfl
theorem QDW : Z7 Tryz.prog 68 = true := by kernel_rfl
theorem QE9 : Z7 Tryz.prog 76 = true := by kernel_rfl
theorem QID : tse Tryz.prog 175 = some (178, 2, [.i .i64 0, .i .i64 0]) := by kernel_rfl
theorem QHM : tse Tryz.prog 215 = some (4, 1, [.b false]) := by kernel_rfl
theorem QGy : tse Tryz.prog 237 = some (3, 1, [.i .i64 0]) := by kernel_rfl
theorem QHu : tse Tryz.prog 24 = some (66, 8, [.i .i64 0, .i .i64 0, .i .i64 0, .i .i64 0, .i .i64 0, .i .i64 0, .i .i64 0, .i .i64 0]) := by kernel_rfl
theorem QJo : tse Tryz.prog 25 = some (160, 3, [.i .i64 0, .nil, .i .i64 0]) := by kernel_rfl
theorem QGY : tse Tryz.prog 26 = some (103, 3, [.i .i64 0, .i .i64 0, .i .i64 0]) := by kernel_rfl
theorem QJq : tse Tryz.prog 27 = some (136, 5, [.i .i64 0, .i .i64 0, .i .i64 0, .i .i64 0, .i .i64 0]) := by kernel_rfl
theorem QBL : tse Tryz.prog 28 = some (139, 4, [.i .i64 0, .i .i64 0, .i .i64 0, .i .i64 0]) := by kernel_rfl
theorem QKo : tse Tryz.prog 29 = some (166, 5, [.i .i64 0, .i .i64 0, .i .i64 0, .i .i64 0, .i .i64 0]) := by kernel_rfl
theorem QFG : tse Tryz.prog 30 = some (153, 4, [.i .i64 0, .i .i64 0, .i .i64 0, .i .i64 0]) := by kernel_rfl
theorem QIE : tse Tryz.prog 68 = some (169, 2, [.i .i64 0, .i .i64 0]) := by kernel_rfl
theorem QHf : tse Tryz.prog 76 = some (180, 3, [.i .i64 0, .i .i64 0, .i .i64 0]) := by kernel_rfl
theorem QDN : tzc Tryz.prog 103 = some [.i .i64 0, .i .i64 0, .i .i64 0] := by kernel_rfl
theorem QHO : tzc Tryz.prog 136 = some [.i .i64 0, .i .i64 0, .i .i64 0, .i .i64 0, .i .i64 0] := by kernel_rfl
theorem QBJ : tzc Tryz.prog 139 = some [.i .i64 0, .i .i64 0, .i .i64 0, .i .i64 0] := by kernel_rfl
theorem QFL : tzc Tryz.prog 153 = some [.i .i64 0, .i .i64 0, .i .i64 0, .i .i64 0] := by kernel_rfl
theorem QKe : tzc Tryz.prog 160 = some [.i .i64 0, .nil, .i .i64 0] := by kernel_rfl
theorem QKK : tzc Tryz.prog 166 = some [.i .i64 0, .i .i64 0, .i .i64 0, .i .i64 0, .i .i64 0] := by kernel_rfl
theorem QGv : tzc Tryz.prog 169 = some [.i .i64 0, .i .i64 0] := by kernel_rfl
theorem QBN : tzc Tryz.prog 180 = some [.i .i64 0, .i .i64 0, .i .i64 0] := by kernel_rfl
theorem QC5 : tzc Tryz.prog 32 = some [.i .i64 0, .nil, .nil, .nil, .nil, .nil, .nil, .nil, .i .i64 0] := by kernel_rfl
theorem QIM : tzc Tryz.prog 64 = some [.i .i64 0, .i .i64 0, .i .i64 0, .i .i64 0, .i .i64 0] := by kernel_rfl
theorem QKc : tzc Tryz.prog 66 = some [.i .i64 0, .i .i64 0, .i .i64 0, .i .i64 0, .i .i64 0, .i .i64 0, .i .i64 0, .i .i64 0] := by kernel_rfl
def tys := And.intro @ty0 <| And.intro @ty1 <| And.intro @ty2 <| And.intro @ty3 <| And.intro @ty4 <| And.intro @ty5 <| And.intro @ty6 <| And.intro @ty7 <| And.intro @ty8 <| And.intro @ty9 <| And.intro @QQs <| And.intro @QNO <| And.intro @QKX <| And.intro @QLa <| And.intro @QMn <| And.intro @QRd <| And.intro @QN6 <| And.intro @QNU <| And.intro @QMr <| And.intro @QQV <| And.intro @QLU <| And.intro @QOk <| And.intro @QMv <| And.intro @QQS <| And.intro @QKR <| And.intro @QNa <| And.intro @QRi <| And.intro @QO0 <| And.intro @QPY <| And.intro @QOF <| And.intro @QMs <| And.intro @QMK <| And.intro @QNA <| And.intro @QQp <| And.intro @QL9 <| And.intro @QQh <| And.intro @QQi <| And.intro @QLk <| And.intro @QKU <| And.intro @QOX <| And.intro @QLQ <| And.intro @QMS <| And.intro @QQ2 <| And.intro @QPS <| And.intro @QQC <| And.intro @QK8 <| And.intro @QL0 <| And.intro @QOU <| And.intro @QM0 <| And.intro @QLJ <| And.intro @QMe <| And.intro @QL2 <| And.intro @QRj <| And.intro @QNy <| And.intro @QOn <| And.intro @QOy <| And.intro @QQ5 <| And.intro @QMJ <| And.intro @QOK <| And.intro @QPO <| And.intro @QNp <| And.intro @QLB <| And.intro @QO9 <| And.intro @QMt <| And.intro @QOm <| And.intro @QK5 <| And.intro @QM5 <| And.intro @QP2 <| And.intro @QMU <| And.intro @QP4 <| And.intro @QOC <| And.intro @QN7 <| And.intro @QN0 <| And.intro @QQa <| And.intro @QQr <| And.intro @QOI <| And.intro @QPL <| And.intro @QLV <| And.intro @QN8 <| And.intro @QPz <| And.intro @QMg <| And.intro @QLK <| And.intro @QPK <| And.intro @QMP <| And.intro @QQ6 <| And.intro @QOo <| And.intro @QMo <| And.intro @QOH <| And.intro @QLO <| And.intro @QMM <| And.intro @QOt <| And.intro @QNq <| And.intro @QQv <| And.intro @QNR <| And.intro @QQW <| And.intro @QLZ <| And.intro @QNV <| And.intro @QPI <| And.intro @QPx <| And.intro @QM8 <| And.intro @QF1 <| And.intro @QEh <| And.intro @QHp <| And.intro @QBz <| And.intro @QJB <| And.intro @QIa <| And.intro @QCS <| And.intro @QGt <| And.intro @QJO <| And.intro @QG1 <| And.intro @QIi <| And.intro @QD9 <| And.intro @QKn <| And.intro @QGL <| And.intro @QCQ <| And.intro @QDe <| And.intro @QJ1 <| And.intro @QGs <| And.intro @QCA <| And.intro @QBs <| And.intro @QDj <| And.intro @QCC <| And.intro @QHt <| And.intro @QJm <| And.intro @QCn <| And.intro @QI0 <| And.intro @QBG <| And.intro @QBX <| And.intro @QEq <| And.intro @QE8 <| And.intro @QDL <| And.intro @QB7 <| And.intro @QHx <| And.intro @QCZ <| And.intro @QIB <| And.intro @QFW <| And.intro @QFQ <| And.intro @QCs <| And.intro @QEg <| And.intro @QEL <| And.intro @QCH <| And.intro @QHq <| And.intro @QGk <| And.intro @QCp <| And.intro @QI8 <| And.intro @QJf <| And.intro @QKv <| And.intro @QId <| And.intro @QGU <| And.intro @QGe <| And.intro @QJD <| And.intro @QCk <| And.intro @QBY <| And.intro @QGQ <| And.intro @QB1 <| And.intro @QBS <| And.intro @QHa <| And.intro @QEZ <| And.intro @QE5 <| And.intro @QG9 <| And.intro @QGa <| And.intro @QJQ <| And.intro @QEv <| And.intro @QGb <| And.intro @QHs <| And.intro @QFT <| And.intro @QJp <| And.intro @QEj <| And.intro @QDp <| And.intro @QDM <| And.intro @QGR <| And.intro @QF3 <| And.intro @QH6 <| And.intro @QIY <| And.intro @QH2 <| And.intro @QHZ <| And.intro @QFb <| And.intro @QDV <| And.intro @QCw <| And.intro @QH3 <| And.intro @QH9 <| And.intro @QH7 <| And.intro @QDy <| And.intro @QKb <| And.intro @QHU <| And.intro @QJs <| And.intro @QKg <| And.intro @QDK <| And.intro @QER <| And.intro @QC7 <| And.intro @QDi <| And.intro @QHA <| And.intro @QC0 <| And.intro @QJ0 <| And.intro @QFE <| And.intro @QBV <| And.intro @QHz <| And.intro @QHK <| And.intro @QFO <| And.intro @QHv <| And.intro @QC6 <| And.intro @QKu <| And.intro @QKC <| And.intro @QFH <| And.intro @QHe <| And.intro @QDW <| And.intro @QE9 <| And.intro @QID <| And.intro @QHM <| And.intro @QGy <| And.intro @QHu <| And.intro @QJo <| And.intro @QGY <| And.intro @QJq <| And.intro @QBL <| And.intro @QKo <| And.intro @QFG <| And.intro @QIE <| And.intro @QHf <| And.intro @QDN <| And.intro @QHO <| And.intro @QBJ <| And.intro @QFL <| And.intro @QKe <| And.intro @QKK <| And.intro @QGv <| And.intro @QBN <| And.intro @QC5 <| And.intro @QIM @QKc
noncomputable def T : Tld := { P := Tryz.prog, ann := [(10, { ac := [(19, 0), (20, 0), (24, 0)], jn := [(12, (57, 49, 57)), (21, (86, 74, 86)), (32, (115, 107, 115))] }), (13, {}), (15, { lp := [(3, ⟨[0, 3, 4], [.s 3 3], [3], [.s 3 3]⟩)], sh := [.z 3] }), (17, {}), (18, { lp := [(4, ⟨[0, 1, 5], [], [], []⟩)], rt := ⟨[4], [], [], []⟩ }), (19, { ak := [0], lp := [(2, ⟨[0, 1, 5], [.s 0 3], [0, 1], [.s 0 3]⟩)] }), (20, { ak := [0, 1, 2, 3, 4, 5, 6], ac := [(1, 0), (2, 0), (3, 0), (4, 0), (5, 0), (6, 0), (7, 0)] }), (21, {}), (22, {}), (24, { sh := [.a [0, 8, 3, 3, 5, 4, 5, 4, 0]] }), (34, {}), (36, {}), (37, { lp := [(3, ⟨[0, 3, 4], [.s 3 2], [3], [.s 3 2]⟩)], sh := [.z 2] }), (39, { lp := [(4, ⟨[0, 1, 5], [], [], []⟩)], rt := ⟨[4], [], [], []⟩ }), (40, { ak := [0], lp := [(2, ⟨[0, 1, 5], [.s 0 2], [0, 1], [.s 0 2]⟩)] }), (41, {}), (42, { ot := [(9, .one 0 (.one 1 (.one 2 (.one 3 (.one 4 (.one 5 (.one 6 (.one 7 (.one 8 (.alt (.one 9 (.one 10 (.one 11 (.one 12 (.one 13 (.one 14 (.one 15 (.done)))))))) (.one 13 (.one 9 (.one 10 (.one 11 (.one 12 (.one 14 (.one 15 (.done))))))))))))))))))], av := [(6, [120]), (9, [120]), (10, [92]), (11, [92])], jn := [(3, (50, 27, 50))], sh := [.a [0, 8, 3, 3, 5, 4, 5, 4, 0], .n] }), (43, { lp := [(3, ⟨[0, 3, 4], [.s 3 3], [3], [.s 3 3]⟩)], sh := [.z 3] }), (44, { av := [(11, [100])], jn := [(3, (42, 28, 42)), (9, (80, 68, 80))], sh := [.a [0, 8, 3, 3, 5, 4, 5, 4, 0], .n] }), (45, { lp := [(4, ⟨[0, 1, 5], [], [], []⟩)], rt := ⟨[4], [], [], []⟩ }), (46, { ak := [0], lp := [(2, ⟨[0, 1, 5], [.s 0 3], [0, 1], [.s 0 3]⟩)] }), (59, { ord := [(1, [0, 1, 2, 3, 4, 6, 7, 9, 10, 11, 13, 14, 15, 17, 18, 19, 21, 22, 23, 25, 26, 27, 29, 30, 5, 8, 12, 16, 20, 24, 28, 31, 32])], eb := [(1, [5, 12, 16, 20, 24, 28])], sh := [.a [0, 8, 3, 3, 5, 4, 5, 4, 0]] }), (60, { jn := [(1, (48, 3, 48)), (3, (86, 49, 86)), (5, (2, 87, 93))] }), (62, {}), (63, { sh := [.z 3] }), (64, { ord := [(1, [0, 1, 2, 3, 4, 5, 6, 7, 8, 9, 10, 11, 12, 13, 14, 15, 16, 17, 18, 19, 20, 21, 22, 23, 24, 25, 26, 27, 28, 29, 30, 31, 32, 33, 34, 35, 36, 37, 38, 39, 40, 41, 42, 44, 45, 43, 46, 47, 48, 49, 50, 51, 52, 53])], jn := [(1, (2, 3, 56))] }), (65, { lp := [(4, ⟨[0, 1, 5], [], [], []⟩)], rt := ⟨[4], [], [], []⟩ }), (66, { lp := [(4, ⟨[0, 1, 5], [], [], []⟩)], rt := ⟨[4], [], [], []⟩ }), (67, { lp := [(4, ⟨[0, 1, 5], [], [], []⟩)], rt := ⟨[4], [], [], []⟩ }), (68, { lp := [(4, ⟨[0, 1, 5], [], [], []⟩)], rt := ⟨[4], [], [], []⟩ }), (69, { lp := [(4, ⟨[0, 1, 5], [], [], []⟩)], rt := ⟨[4], [], [], []⟩ }), (70, { lp := [(4, ⟨[0, 1, 5], [], [], []⟩)], rt := ⟨[4], [], [], []⟩ }), (71, {}), (72, { ak := [0], lp := [(2, ⟨[0, 1, 5], [.s 0 8], [0, 1], [.s 0 8]⟩)] }), (73, { an := [(6, [0, 0, 0, 0])], ak := [0], lp := [(2, ⟨[0, 1, 5], [.s 0 3], [0, 1], [.s 0 3]⟩)] }), (74, { ak := [0], lp := [(2, ⟨[0, 1, 5], [.s 0 5], [0, 1], [.s 0 5]⟩)] }), (75, { ak := [0], lp := [(2, ⟨[0, 1, 5], [.s 0 4], [0, 1], [.s 0 4]⟩)] }), (76, { ak := [0], lp := [(2, ⟨[0, 1, 5], [.s 0 5], [0, 1], [.s 0 5]⟩)] }), (77, { ak := [0], lp := [(2, ⟨[0, 1, 5], [.s 0 4], [0, 1], [.s 0 4]⟩)] }), (78, { lp := [(2, ⟨[0, 1, 5], [], [1], []⟩)], rt := ⟨[4], [], [], []⟩ }), (79, { lp := [(2, ⟨[0, 1, 5], [], [1], []⟩)], rt := ⟨[4], [], [], []⟩ }), (80, { lp := [(2, ⟨[0, 1, 5], [], [1], []⟩)], rt := ⟨[4], [], [], []⟩ }), (81, { lp := [(2, ⟨[0, 1, 5], [], [1], []⟩)], rt := ⟨[4], [], [], []⟩ }), (82, { lp := [(2, ⟨[0, 1, 5], [], [1], []⟩)], rt := ⟨[4], [], [], []⟩ }), (83, { lp := [(2, ⟨[0, 1, 5], [], [1], []⟩)], rt := ⟨[4], [], [], []⟩ }), (84, { lp := [(2, ⟨[0, 1, 5], [], [1], []⟩)], rt := ⟨[4], [], [], []⟩ }), (85, {}), (86, { lp := [(5, ⟨[0, 1, 5], [], [1], []⟩)], rt := ⟨[4], [], [], []⟩ }), (87, {}), (88, {}), (89, {}), (90, {}), (91, { jn := [(1, (6, 7, 15))] }), (92, { jn := [(1, (19, 8, 19))], sh := [.a [0, 8, 3, 3, 5, 4, 5, 4, 0], .n] }), (93, { lp := [(3, ⟨[0, 3, 4], [.s 3 8], [3], [.s 3 8]⟩)], sh := [.z 8] }), (94, { lp := [(3, ⟨[0, 3, 4], [.s 3 3], [3], [.s 3 3]⟩)], sh := [.z 3] }), (95, { lp := [(3, ⟨[0, 3, 4], [.s 3 5], [3], [.s 3 5]⟩)], sh := [.z 5] }), (96, { lp := [(3, ⟨[0, 3, 4], [.s 3 4], [3], [.s 3 4]⟩)], sh := [.z 4] }), (97, { lp := [(3, ⟨[0, 3, 4], [.s 3 5], [3], [.s 3 5]⟩)], sh := [.z 5] }), (98, { lp := [(3, ⟨[0, 3, 4], [.s 3 4], [3], [.s 3 4]⟩)], sh := [.z 4] }), (99, { ord := [(1, [0, 1, 3, 4, 6, 7, 9, 10, 2, 12, 5, 8, 11, 13, 14, 15, 16, 17, 18, 19]), (2, [0, 1, 3, 4, 6, 7, 2, 9, 5, 8, 10, 11, 12, 13, 14])], sh := [.a [0, 8, 3, 3, 5, 4, 5, 4, 0]] }), (100, { jn := [(1, (19, 8, 19))], sh := [.a [0, 8, 3, 3, 5, 4, 5, 4, 0], .n] }), (101, { jn := [(1, (6, 7, 15))] }), (103, { sh := [.z 2] }), (105, { jn := [(1, (5, 6, 19)), (3, (19, 20, 30))] }), (107, { sh := [.z 2] }), (109, { jn := [(1, (5, 6, 19)), (3, (19, 20, 30))] }), (112, { jn := [(4, (22, 12, 22))], lp := [(2, ⟨[0, 1, 5], [], [], []⟩)], rt := ⟨[4], [], [], []⟩ }), (114, {}), (116, { jn := [(5, (44, 13, 44))], lp := [(3, ⟨[0, 1, 5, 6], [], [0, 5], []⟩)] }), (117, { lp := [(2, ⟨[0, 1, 5], [], [], []⟩)], rt := ⟨[4], [], [], []⟩ }), (118, { sh := [.a [0, 8, 3, 3, 5, 4, 5, 4, 0], .n] }), (120, { sh := [.a [0, 8, 3, 3, 5, 4, 5, 4, 0], .n] }), (122, { jn := [(2, (24, 11, 24))] }), (123, { jn := [(6, (35, 16, 35))], lp := [(4, ⟨[1, 5, 6, 10, 11, 12], [.s 5 0], [5], [.s 5 0]⟩)] }), (124, { sh := [.a [0, 8, 3, 3, 5, 4, 5, 4, 0], .n] }), (126, { ot := [(1, .one 0 (.one 2 (.alt (.one 1 (.one 3 (.one 4 (.one 5 (.done))))) (.one 3 (.one 1 (.one 4 (.one 5 (.done))))))))], sh := [.z 4, .n] }), (127, { jn := [(6, (36, 20, 36)), (10, (42, 43, 53))], lp := [(4, ⟨[1, 2, 3, 7], [.s 3 0], [2, 3], [.s 3 0]⟩)], rt := ⟨[6], [], [], []⟩ }), (128, { jn := [(4, (16, 17, 26)), (6, (26, 27, 35)), (8, (35, 36, 44))] }), (132, { ot := [(5, .one 1 (.alt (.one 0 (.alt (.one 2 (.one 3 (.one 4 (.one 5 (.one 6 (.done)))))) (.one 3 (.alt (.one 2 (.one 4 (.one 5 (.one 6 (.done))))) (.one 4 (.one 2 (.one 5 (.one 6 (.done))))))))) (.one 3 (.alt (.one 0 (.alt (.one 2 (.one 4 (.one 5 (.one 6 (.done))))) (.one 4 (.one 2 (.one 5 (.one 6 (.done))))))) (.one 4 (.one 0 (.one 2 (.one 5 (.one 6 (.done))))))))))], sh := [.z 5, .n] }), (133, {}), (134, {}), (138, { ot := [(5, .one 0 (.one 2 (.alt (.one 1 (.one 3 (.one 4 (.one 5 (.done))))) (.one 3 (.one 1 (.one 4 (.one 5 (.done))))))))], sh := [.z 5, .n] }), (139, {}), (140, { jn := [(1, (12, 5, 12))] }), (141, { sh := [.z 2] }), (142, {}), (143, { jn := [(1, (12, 5, 12))] }), (144, { sh := [.z 2] }), (145, {}), (146, {}), (147, { ord := [(5, [0, 1, 2, 3, 4, 5, 6, 7, 8, 9, 10, 11, 13, 14, 15, 16, 17, 12, 18, 19, 20, 21])], eb := [(5, [18])], lp := [(3, ⟨[0, 3, 4], [.s 3 3], [3], [.s 3 3]⟩)], sh := [.z 3] }), (148, { jn := [(4, (35, 10, 35))], lp := [(2, ⟨[0, 3], [], [0], []⟩)], rt := ⟨[2], [], [], []⟩ }), (149, { jn := [(4, (61, 10, 61))], lp := [(2, ⟨[0, 3], [], [0], []⟩)], rt := ⟨[2], [], [], []⟩ }), (150, { jn := [(4, (53, 11, 53)), (9, (77, 59, 77))], lp := [(2, ⟨[0, 3], [], [0], []⟩), (7, ⟨[0, 3, 4], [], [0, 3], []⟩)], rt := ⟨[2], [], [], []⟩ }), (151, { jn := [(5, (58, 16, 58)), (10, (84, 64, 84))], lp := [(2, ⟨[0, 3], [], [0], []⟩), (8, ⟨[0, 3, 4, 5], [.s 4 0], [0, 3], []⟩)], rt := ⟨[2], [], [], []⟩ }), (152, { jn := [(3, (15, 7, 15)), (7, (67, 25, 67)), (10, (96, 73, 96))], lp := [(3, ⟨[0, 3, 4], [], [0], []⟩)], rt := ⟨[2], [], [], []⟩ }), (153, { jn := [(5, (58, 15, 58))], lp := [(2, ⟨[0, 3], [], [0], []⟩)], rt := ⟨[2], [], [], []⟩ }), (154, { ord := [(13, [0, 1, 2, 3, 4, 5, 6, 7, 8, 9, 10, 11, 14, 15, 12, 13, 16, 17, 18, 19, 20, 21, 22, 23, 24, 25, 26, 27, 28, 29])], jn := [(13, (77, 48, 77)), (18, (103, 85, 103))], lp := [(5, ⟨[1, 3, 4], [.s 1 0, .s 3 1], [1, 3], [.s 1 0, .s 3 1]⟩), (10, ⟨[1, 3, 5], [.s 1 0, .s 3 1], [1], [.s 1 0]⟩), (16, ⟨[1, 7], [.s 1 0], [], []⟩)], rt := ⟨[2], [], [], []⟩ }), (155, { ord := [(8, [0, 1, 2, 3, 4, 5, 6, 7, 8, 9, 10, 11, 12, 13, 14, 15, 16, 17, 18, 19, 20, 21, 22, 23, 24, 25, 26, 27, 28, 29, 30, 32, 33, 34, 35, 36, 38, 31, 37, 39, 40, 41, 42, 43, 44, 45, 46, 47])], jn := [(8, (77, 30, 77))], lp := [(4, ⟨[1, 3], [.s 1 0], [], []⟩)], rt := ⟨[2], [], [], []⟩ }), (156, { jn := [(6, (34, 15, 34))], lp := [(4, ⟨[0, 8, 9, 10], [], [], []⟩)], rt := ⟨[2], [], [], []⟩ }), (157, { jn := [(6, (51, 15, 51))], lp := [(4, ⟨[0, 8, 9, 10], [], [], []⟩)], rt := ⟨[2], [], [], []⟩ }), (158, { jn := [(6, (54, 15, 54))], lp := [(4, ⟨[0, 8, 9, 10], [], [], []⟩)], rt := ⟨[2], [], [], []⟩ }), (159, { jn := [(6, (59, 17, 59)), (11, (82, 68, 82))], lp := [(4, ⟨[0, 10, 11, 12], [], [], []⟩), (9, ⟨[0, 4, 10, 11, 12, 62, 63, 64], [.s 4 0], [0, 10, 11, 12], []⟩)], rt := ⟨[2], [], [], []⟩ }), (160, { jn := [(7, (61, 17, 61)), (13, (83, 73, 83))], lp := [(5, ⟨[0, 3, 10, 11, 12], [], [], []⟩)], rt := ⟨[2], [], [], []⟩ }), (161, { jn := [(6, (58, 15, 58))], lp := [(4, ⟨[0, 8, 9, 10], [], [], []⟩)], rt := ⟨[2], [], [], []⟩ }), (162, { ord := [(7, [0, 1, 2, 3, 4, 5, 6, 7, 8, 9, 10, 11, 12, 13, 14, 15, 18, 19, 20, 21, 16, 17, 22, 23, 24])], jn := [(7, (54, 30, 54)), (13, (73, 63, 73))], lp := [(5, ⟨[1, 3, 23, 24, 25], [.s 1 0, .s 3 1], [1, 3], [.s 1 0, .s 3 1]⟩), (11, ⟨[1, 3, 57, 58, 59], [.s 1 0, .s 3 1], [1, 3], [.s 1 0, .s 3 1]⟩), (17, ⟨[1, 75, 76, 77], [.s 1 0, .s 75 1], [], []⟩)], rt := ⟨[2], [], [], []⟩ }), (163, { ord := [(7, [0, 1, 2, 3, 4, 5, 6, 7, 8, 9, 10, 11, 12, 13, 14, 15, 16, 17, 18, 19, 20, 21, 22, 24, 26, 27, 23, 25, 28, 29, 30])], jn := [(7, (56, 26, 56))], lp := [(4, ⟨[1, 14, 15, 16], [.s 1 0], [], []⟩)], rt := ⟨[2], [], [], []⟩ }), (164, { lp := [(3, ⟨[1, 3, 13, 14, 15], [.s 1 0], [1, 3], [.s 1 0]⟩), (8, ⟨[1, 3, 25, 26, 27], [.s 1 0], [1, 3], [.s 1 0]⟩), (13, ⟨[1, 3, 37, 38, 39], [.s 1 0], [1, 3], [.s 1 0]⟩), (18, ⟨[3, 49, 50, 51], [], [3], []⟩)] }), (165, {}), (166, {}), (167, {}), (168, {}), (169, {}), (170, { lp := [(2, ⟨[0, 1, 5], [], [1], []⟩)], rt := ⟨[4], [], [], []⟩ }), (171, {}), (172, { sh := [.a [0, 2, 0]] }), (173, {}), (174, {}), (175, {}), (176, {}), (177, { sh := [.z 8] }), (178, { lp := [(3, ⟨[3, 7, 8, 9], [.s 3 3], [3], [.s 3 3]⟩)], sh := [.z 3] }), (179, { sh := [.z 5] }), (180, { sh := [.z 4] }), (181, { sh := [.z 5] }), (182, { sh := [.z 4] }), (183, {}), (184, { lp := [(2, ⟨[0, 1, 5], [], [], []⟩)], rt := ⟨[4], [], [], []⟩ }), (187, { jn := [(1, (2, 3, 26))] }), (188, { jn := [(4, (43, 10, 43))], lp := [(2, ⟨[0, 3], [], [0], []⟩)], rt := ⟨[2], [], [], []⟩ }), (189, {}), (190, { lp := [(2, ⟨[0, 1, 7, 8], [], [], []⟩)], rt := ⟨[4], [], [], []⟩ }), (192, {}), (193, { sh := [.z 2] }), (196, { jn := [(1, (2, 3, 26))] }), (197, { jn := [(6, (39, 15, 39))], lp := [(4, ⟨[0, 8, 9, 10], [], [], []⟩)], rt := ⟨[2], [], [], []⟩ }), (198, {}), (199, {}), (202, { lp := [(2, ⟨[0, 1, 7, 8], [], [], []⟩)], rt := ⟨[4], [], [], []⟩ }), (203, {}), (206, { jn := [(3, (21, 15, 21))], lp := [(6, ⟨[6, 7, 8], [.s 6 3], [6], [.s 6 3]⟩)], sh := [.z 3, .n] }), (207, { ot := [(1, .one 1 (.alt (.one 0 (.alt (.one 2 (.one 3 (.one 4 (.one 5 (.one 6 (.done)))))) (.one 3 (.alt (.one 2 (.one 4 (.one 5 (.one 6 (.done))))) (.one 4 (.one 2 (.one 5 (.one 6 (.done))))))))) (.one 3 (.alt (.one 0 (.alt (.one 2 (.one 4 (.one 5 (.one 6 (.done))))) (.one 4 (.one 2 (.one 5 (.one 6 (.done))))))) (.one 4 (.one 0 (.one 2 (.one 5 (.one 6 (.done))))))))))], sh := [.z 4, .n] }), (208, { jn := [(1, (2, 3, 26))] }), (209, {}), (210, {}), (211, { jn := [(3, (19, 13, 19))], sh := [.z 3, .n] }), (212, { jn := [(1, (2, 3, 26))] }), (213, { jn := [(1, (4, 5, 13))] }), (214, { jn := [(1, (4, 5, 13))] }), (215, { jn := [(1, (3, 4, 14))] }), (217, {}), (221, {}), (222, { jn := [(4, (26, 11, 26))], lp := [(2, ⟨[0, 3], [], [0], []⟩), (7, ⟨[0, 3, 4], [], [0, 3], []⟩)], rt := ⟨[2], [], [], []⟩ }), (223, { ot := [(8, .one 1 (.one 2 (.one 3 (.one 5 (.one 6 (.one 11 (.one 12 (.one 13 (.alt (.one 0 (.alt (.one 4 (.one 7 (.one 8 (.one 9 (.one 10 (.one 14 (.one 15 (.done)))))))) (.one 7 (.alt (.one 4 (.one 8 (.one 9 (.one 10 (.one 14 (.one 15 (.done))))))) (.one 8 (.alt (.one 4 (.one 9 (.one 10 (.one 14 (.one 15 (.done)))))) (.one 9 (.one 4 (.one 10 (.one 14 (.one 15 (.done)))))))))))) (.one 7 (.alt (.one 0 (.alt (.one 4 (.one 8 (.one 9 (.one 10 (.one 14 (.one 15 (.done))))))) (.one 8 (.alt (.one 4 (.one 9 (.one 10 (.one 14 (.one 15 (.done)))))) (.one 9 (.one 4 (.one 10 (.one 14 (.one 15 (.done)))))))))) (.one 8 (.alt (.one 0 (.alt (.one 4 (.one 9 (.one 10 (.one 14 (.one 15 (.done)))))) (.one 9 (.one 4 (.one 10 (.one 14 (.one 15 (.done)))))))) (.one 9 (.one 0 (.one 4 (.one 10 (.one 14 (.one 15 (.done))))))))))))))))))))], fz := [(8, [3])], jn := [(6, (30, 15, 30))], lp := [(3, ⟨[0, 3, 4], [.s 3 3], [3], [.s 3 3]⟩), (6, ⟨[0, 3, 4, 5], [.s 3 3], [0, 3, 4, 5], [.s 3 3]⟩)], sh := [.z 3] }), (224, { jn := [(9, (43, 31, 43))], lp := [(4, ⟨[0, 1, 5, 6, 7], [.s 5 1], [0, 1, 5, 6], [.s 5 1]⟩), (13, ⟨[0, 1, 5, 6, 8, 9], [.s 5 1], [5, 8], [.s 5 1]⟩), (18, ⟨[5, 8, 10], [.s 5 1], [5], [.s 5 1]⟩)], rt := ⟨[4], [.s 4 1], [], []⟩, sh := [.z 1] }), (225, { jn := [(6, (24, 15, 24))], lp := [(4, ⟨[0, 8, 9, 10], [], [], []⟩)], rt := ⟨[2], [], [], []⟩ }), (226, { ac := [(2, 0)], sh := [.z 3] }), (227, { jn := [(2, (23, 15, 23))], lp := [(6, ⟨[0, 1, 5, 6, 25, 26, 27], [.s 5 1], [0, 1, 5, 6], [.s 5 1]⟩), (16, ⟨[0, 5, 6, 9, 43, 44, 45], [.s 5 1], [5, 9], [.s 5 1]⟩), (23, ⟨[5, 9, 13], [.s 5 1], [5], [.s 5 1]⟩)], rt := ⟨[4], [.s 4 1], [], []⟩, sh := [.z 1] }), (228, {}), (229, { jn := [(1, (2, 3, 21))] }), (230, { lp := [(3, ⟨[0, 1, 2, 7, 8], [], [7], []⟩)] }), (231, { jn := [(3, (16, 9, 16)), (6, (42, 28, 42))], lp := [(3, ⟨[0, 1, 5, 6], [.s 5 1], [5], [.s 5 1]⟩)], sh := [.z 1] }), (232, { lp := [(2, ⟨[0, 1, 5], [], [], []⟩)], rt := ⟨[4], [], [], []⟩ }), (233, { jn := [(1, (2, 3, 21))] }), (234, {}), (235, { lp := [(2, ⟨[0, 1, 5], [], [], []⟩)], rt := ⟨[4], [], [], []⟩ }), (236, { ac := [(10, 0)], jn := [(7, (36, 20, 36))], lp := [(5, ⟨[0, 1, 5, 13, 14, 15], [.s 5 1], [5], [.s 5 1]⟩)], sh := [.z 1] }), (237, {}), (238, {}), (239, { lp := [(2, ⟨[0, 1, 7, 8], [], [], []⟩)], rt := ⟨[4], [], [], []⟩ }), (241, { lp := [(2, ⟨[0, 1, 7, 8], [], [], []⟩)], rt := ⟨[4], [], [], []⟩ }), (242, {}), (247, { lp := [(2, ⟨[0, 1, 7, 8], [], [], []⟩)], rt := ⟨[4], [], [], []⟩ }), (248, {}), (249, {}), (250, {}), (251, { lp := [(3, ⟨[0, 3, 4], [], [3], []⟩)] }), (256, { lp := [(3, ⟨[3, 6, 7, 8], [], [3], []⟩)] }), (257, { jn := [(1, (2, 3, 11))] }), (258, {}), (259, {}), (260, { sh := [.z 3] }), (261, { ak := [0], ac := [(0, 0)] }), (262, {}), (263, {}), (264, { ot := [(6, .one 1 (.one 2 (.one 3 (.one 5 (.one 8 (.one 9 (.one 10 (.alt (.one 0 (.alt (.one 4 (.one 6 (.one 7 (.one 11 (.one 12 (.done)))))) (.one 6 (.one 4 (.one 7 (.one 11 (.one 12 (.done)))))))) (.one 6 (.one 0 (.one 4 (.one 7 (.one 11 (.one 12 (.done)))))))))))))))], jn := [(2, (17, 6, 17)), (4, (31, 20, 31))], lp := [(2, ⟨[0, 1, 5], [], [0, 1, 5], []⟩)], sh := [.z 1] }), (266, { lp := [(2, ⟨[0, 1, 7, 8], [], [], []⟩)], rt := ⟨[4], [], [], []⟩ }), (267, {}), (270, { jn := [(5, (10, 11, 17))] }), (271, {}), (274, {}), (275, { lp := [(2, ⟨[0, 1, 7, 8], [], [], []⟩)], rt := ⟨[4], [], [], []⟩ }), (276, { ak := [0], ac := [(3, 0), (6, 0)], lp := [(2, ⟨[0, 1, 2, 6, 7, 8], [.s 0 3], [0, 1, 2, 6, 7], [.s 0 3]⟩), (7, ⟨[0, 1, 2, 6], [.s 0 3], [0], [.s 0 3]⟩), (9, ⟨[0, 1, 2, 6, 7, 8], [.s 0 3], [0, 1, 2, 6, 7], [.s 0 3]⟩)] }), (277, {}), (283, {}), (284, { ak := [0], jn := [(4, (34, 18, 34))], lp := [(1, ⟨[0, 1, 2, 3, 8], [.s 0 3], [0], [.s 0 3]⟩), (4, ⟨[0, 1, 2, 3, 8, 9], [.s 0 3], [0, 1, 2, 3, 8], [.s 0 3]⟩)] })], xt := fun _ _ => none, st := fun g => Nat.beq g 265, qt := fun _ => false, pz := [], vt := fun g => Nat.beq g 92 || Nat.beq g 100 || Nat.beq g 120, mt := fun _ _ _ => none }
theorem TP : T.P = Tryz.prog := _root_.id rfl
theorem TZ : T.pz = [] := _root_.id rfl
theorem Qxg (n : Nat) (args : List AV) : CP T n 285 args = none := by
 cases n with
 | zero => rfl
 | succ n => rw [QQR T n 285 args (by kernel_rfl)]; rfl
def eY := And.intro evT <| And.intro QFS <| And.intro @QRl <| And.intro @Qkb <| @JJ
def eZ := And.intro evB <| And.intro evT <| And.intro tys <| And.intro QFS <| And.intro TP <| And.intro TZ <| And.intro (@QDa T) <| And.intro (@QJM T) <| And.intro (@QHG T) <| And.intro @Qxg <| @QCe T
theorem QMY : cI = Qt := _root_.id rfl
theorem QzG (xs : List Int) : Qbo (xs.map Qt) = some xs := Qqu xs
theorem Qyn : T.st 265 = true := by kernel_rfl
theorem QCV : T.st 19 = false := by kernel_rfl
theorem QDS : T.qt 19 = false := by kernel_rfl
theorem QBH : T.wt 19 = true := by kernel_rfl
theorem QJr : T.vt 19 = false := by kernel_rfl
theorem QDo : T.st 20 = false := by kernel_rfl
theorem QKF : T.qt 20 = false := by kernel_rfl
theorem QHl : T.wt 20 = true := by kernel_rfl
theorem QEB : T.vt 20 = false := by kernel_rfl
theorem QEM : T.st 40 = false := by kernel_rfl
theorem QJ2 : T.qt 40 = false := by kernel_rfl
theorem QDQ : T.wt 40 = true := by kernel_rfl
theorem QHJ : T.vt 40 = false := by kernel_rfl
theorem QHN : T.st 46 = false := by kernel_rfl
theorem QGr : T.qt 46 = false := by kernel_rfl
theorem QEd : T.wt 46 = true := by kernel_rfl
theorem QIu : T.vt 46 = false := by kernel_rfl
theorem QHS : T.st 72 = false := by kernel_rfl
theorem QIZ : T.qt 72 = false := by kernel_rfl
theorem QG3 : T.wt 72 = true := by kernel_rfl
theorem QC9 : T.vt 72 = false := by kernel_rfl
theorem QCE : T.st 73 = false := by kernel_rfl
theorem QIs : T.qt 73 = false := by kernel_rfl
theorem QHo : T.wt 73 = true := by kernel_rfl
theorem QGB : T.vt 73 = false := by kernel_rfl
theorem QHP : T.st 74 = false := by kernel_rfl
theorem QFo : T.qt 74 = false := by kernel_rfl
theorem QKh : T.wt 74 = true := by kernel_rfl
theorem QI7 : T.vt 74 = false := by kernel_rfl
theorem QBx : T.st 75 = false := by kernel_rfl
theorem QDD : T.qt 75 = false := by kernel_rfl
theorem QEl : T.wt 75 = true := by kernel_rfl
theorem QBD : T.vt 75 = false := by kernel_rfl
theorem QIh : T.st 76 = false := by kernel_rfl
theorem QKE : T.qt 76 = false := by kernel_rfl
theorem QCj : T.wt 76 = true := by kernel_rfl
theorem QBF : T.vt 76 = false := by kernel_rfl
theorem QKJ : T.st 77 = false := by kernel_rfl
theorem QGD : T.qt 77 = false := by kernel_rfl
theorem QB4 : T.wt 77 = true := by kernel_rfl
theorem QJP : T.vt 77 = false := by kernel_rfl
theorem QDX : T.st 92 = false := by kernel_rfl
theorem QIO : T.qt 92 = false := by kernel_rfl
theorem QFm : T.wt 92 = false := by kernel_rfl
theorem QJG : T.vt 92 = true := by kernel_rfl
theorem QAe : T.st 100 = false := by kernel_rfl
theorem QAC : T.qt 100 = false := by kernel_rfl
theorem QAv : T.wt 100 = false := by kernel_rfl
theorem Qyj : T.vt 100 = true := by kernel_rfl
theorem Qyl : T.st 120 = false := by kernel_rfl
theorem Qyk : T.qt 120 = false := by kernel_rfl
theorem QBf : T.wt 120 = false := by kernel_rfl
theorem QA7 : T.vt 120 = true := by kernel_rfl
theorem QyJ : T.st 261 = false := by kernel_rfl
theorem QzP : T.qt 261 = false := by kernel_rfl
theorem Qyo : T.wt 261 = true := by kernel_rfl
theorem Qzm : T.vt 261 = false := by kernel_rfl
theorem Qy3 : T.st 276 = false := by kernel_rfl
theorem QzK : T.qt 276 = false := by kernel_rfl
theorem QAy : T.wt 276 = true := by kernel_rfl
theorem QAH : T.vt 276 = false := by kernel_rfl
theorem QAL : T.st 284 = false := by kernel_rfl
theorem QyG : T.qt 284 = false := by kernel_rfl
theorem QBa : T.wt 284 = true := by kernel_rfl
theorem Qzb : T.vt 284 = false := by kernel_rfl
def srt := And.intro @QMY <| And.intro @QzG <| And.intro @QDP <| And.intro @QFc <| And.intro @QD0 <| And.intro @QDJ <| And.intro @Qyn <| And.intro @QCV <| And.intro @QDS <| And.intro @QBH <| And.intro @QJr <| And.intro @QDo <| And.intro @QKF <| And.intro @QHl <| And.intro @QEB <| And.intro @QEM <| And.intro @QJ2 <| And.intro @QDQ <| And.intro @QHJ <| And.intro @QHN <| And.intro @QGr <| And.intro @QEd <| And.intro @QIu <| And.intro @QHS <| And.intro @QIZ <| And.intro @QG3 <| And.intro @QC9 <| And.intro @QCE <| And.intro @QIs <| And.intro @QHo <| And.intro @QGB <| And.intro @QHP <| And.intro @QFo <| And.intro @QKh <| And.intro @QI7 <| And.intro @QBx <| And.intro @QDD <| And.intro @QEl <| And.intro @QBD <| And.intro @QIh <| And.intro @QKE <| And.intro @QCj <| And.intro @QBF <| And.intro @QKJ <| And.intro @QGD <| And.intro @QB4 <| And.intro @QJP <| And.intro @QDX <| And.intro @QIO <| And.intro @QFm <| And.intro @QJG <| And.intro @QAe <| And.intro @QAC <| And.intro @QAv <| And.intro @Qyj <| And.intro @Qyl <| And.intro @Qyk <| And.intro @QBf <| And.intro @QA7 <| And.intro @QyJ <| And.intro @QzP <| And.intro @Qyo <| And.intro @Qzm <| And.intro @Qy3 <| And.intro @QzK <| And.intro @QAy <| And.intro @QAH <| And.intro @QAL <| And.intro @QyG <| And.intro @QBa @Qzb
theorem a10 : T.at 10 = some { ac := [(19, 0), (20, 0), (24, 0)], jn := [(12, (57, 49, 57)), (21, (86, 74, 86)), (32, (115, 107, 115))] } := by kernel_rfl
theorem a13 : T.at 13 = some {} := by kernel_rfl
theorem a15 : T.at 15 = some { lp := [(3, ⟨[0, 3, 4], [.s 3 3], [3], [.s 3 3]⟩)], sh := [.z 3] } := by kernel_rfl
theorem a17 : T.at 17 = some {} := by kernel_rfl
theorem a18 : T.at 18 = some { lp := [(4, ⟨[0, 1, 5], [], [], []⟩)], rt := ⟨[4], [], [], []⟩ } := by kernel_rfl
theorem a19 : T.at 19 = some { ak := [0], lp := [(2, ⟨[0, 1, 5], [.s 0 3], [0, 1], [.s 0 3]⟩)] } := by kernel_rfl
theorem a20 : T.at 20 = some { ak := [0, 1, 2, 3, 4, 5, 6], ac := [(1, 0), (2, 0), (3, 0), (4, 0), (5, 0), (6, 0), (7, 0)] } := by kernel_rfl
theorem a21 : T.at 21 = some {} := by kernel_rfl
theorem a22 : T.at 22 = some {} := by kernel_rfl
theorem a24 : T.at 24 = some { sh := [.a [0, 8, 3, 3, 5, 4, 5, 4, 0]] } := by kernel_rfl
theorem a34 : T.at 34 = some {} := by kernel_rfl
theorem a36 : T.at 36 = some {} := by kernel_rfl
theorem a37 : T.at 37 = some { lp := [(3, ⟨[0, 3, 4], [.s 3 2], [3], [.s 3 2]⟩)], sh := [.z 2] } := by kernel_rfl
theorem a39 : T.at 39 = some { lp := [(4, ⟨[0, 1, 5], [], [], []⟩)], rt := ⟨[4], [], [], []⟩ } := by kernel_rfl
theorem a40 : T.at 40 = some { ak := [0], lp := [(2, ⟨[0, 1, 5], [.s 0 2], [0, 1], [.s 0 2]⟩)] } := by kernel_rfl
theorem a41 : T.at 41 = some {} := by kernel_rfl
theorem a42 : T.at 42 = some { ot := [(9, .one 0 (.one 1 (.one 2 (.one 3 (.one 4 (.one 5 (.one 6 (.one 7 (.one 8 (.alt (.one 9 (.one 10 (.one 11 (.one 12 (.one 13 (.one 14 (.one 15 (.done)))))))) (.one 13 (.one 9 (.one 10 (.one 11 (.one 12 (.one 14 (.one 15 (.done))))))))))))))))))], av := [(6, [120]), (9, [120]), (10, [92]), (11, [92])], jn := [(3, (50, 27, 50))], sh := [.a [0, 8, 3, 3, 5, 4, 5, 4, 0], .n] } := by kernel_rfl
theorem a43 : T.at 43 = some { lp := [(3, ⟨[0, 3, 4], [.s 3 3], [3], [.s 3 3]⟩)], sh := [.z 3] } := by kernel_rfl
theorem a44 : T.at 44 = some { av := [(11, [100])], jn := [(3, (42, 28, 42)), (9, (80, 68, 80))], sh := [.a [0, 8, 3, 3, 5, 4, 5, 4, 0], .n] } := by kernel_rfl
theorem a45 : T.at 45 = some { lp := [(4, ⟨[0, 1, 5], [], [], []⟩)], rt := ⟨[4], [], [], []⟩ } := by kernel_rfl
theorem a46 : T.at 46 = some { ak := [0], lp := [(2, ⟨[0, 1, 5], [.s 0 3], [0, 1], [.s 0 3]⟩)] } := by kernel_rfl
theorem a59 : T.at 59 = some { ord := [(1, [0, 1, 2, 3, 4, 6, 7, 9, 10, 11, 13, 14, 15, 17, 18, 19, 21, 22, 23, 25, 26, 27, 29, 30, 5, 8, 12, 16, 20, 24, 28, 31, 32])], eb := [(1, [5, 12, 16, 20, 24, 28])], sh := [.a [0, 8, 3, 3, 5, 4, 5, 4, 0]] } := by kernel_rfl
theorem a60 : T.at 60 = some { jn := [(1, (48, 3, 48)), (3, (86, 49, 86)), (5, (2, 87, 93))] } := by kernel_rfl
theorem a62 : T.at 62 = some {} := by kernel_rfl
theorem a63 : T.at 63 = some { sh := [.z 3] } := by kernel_rfl
theorem a64 : T.at 64 = some { ord := [(1, [0, 1, 2, 3, 4, 5, 6, 7, 8, 9, 10, 11, 12, 13, 14, 15, 16, 17, 18, 19, 20, 21, 22, 23, 24, 25, 26, 27, 28, 29, 30, 31, 32, 33, 34, 35, 36, 37, 38, 39, 40, 41, 42, 44, 45, 43, 46, 47, 48, 49, 50, 51, 52, 53])], jn := [(1, (2, 3, 56))] } := by kernel_rfl
theorem a65 : T.at 65 = some { lp := [(4, ⟨[0, 1, 5], [], [], []⟩)], rt := ⟨[4], [], [], []⟩ } := by kernel_rfl
theorem a66 : T.at 66 = some { lp := [(4, ⟨[0, 1, 5], [], [], []⟩)], rt := ⟨[4], [], [], []⟩ } := by kernel_rfl
theorem a67 : T.at 67 = some { lp := [(4, ⟨[0, 1, 5], [], [], []⟩)], rt := ⟨[4], [], [], []⟩ } := by kernel_rfl
theorem a68 : T.at 68 = some { lp := [(4, ⟨[0, 1, 5], [], [], []⟩)], rt := ⟨[4], [], [], []⟩ } := by kernel_rfl
theorem a69 : T.at 69 = some { lp := [(4, ⟨[0, 1, 5], [], [], []⟩)], rt := ⟨[4], [], [], []⟩ } := by kernel_rfl
theorem a70 : T.at 70 = some { lp := [(4, ⟨[0, 1, 5], [], [], []⟩)], rt := ⟨[4], [], [], []⟩ } := by kernel_rfl
theorem a71 : T.at 71 = some {} := by kernel_rfl
theorem a72 : T.at 72 = some { ak := [0], lp := [(2, ⟨[0, 1, 5], [.s 0 8], [0, 1], [.s 0 8]⟩)] } := by kernel_rfl
theorem a73 : T.at 73 = some { an := [(6, [0, 0, 0, 0])], ak := [0], lp := [(2, ⟨[0, 1, 5], [.s 0 3], [0, 1], [.s 0 3]⟩)] } := by kernel_rfl
theorem a74 : T.at 74 = some { ak := [0], lp := [(2, ⟨[0, 1, 5], [.s 0 5], [0, 1], [.s 0 5]⟩)] } := by kernel_rfl
theorem a75 : T.at 75 = some { ak := [0], lp := [(2, ⟨[0, 1, 5], [.s 0 4], [0, 1], [.s 0 4]⟩)] } := by kernel_rfl
theorem a76 : T.at 76 = some { ak := [0], lp := [(2, ⟨[0, 1, 5], [.s 0 5], [0, 1], [.s 0 5]⟩)] } := by kernel_rfl
theorem a77 : T.at 77 = some { ak := [0], lp := [(2, ⟨[0, 1, 5], [.s 0 4], [0, 1], [.s 0 4]⟩)] } := by kernel_rfl
theorem a78 : T.at 78 = some { lp := [(2, ⟨[0, 1, 5], [], [1], []⟩)], rt := ⟨[4], [], [], []⟩ } := by kernel_rfl
theorem a79 : T.at 79 = some { lp := [(2, ⟨[0, 1, 5], [], [1], []⟩)], rt := ⟨[4], [], [], []⟩ } := by kernel_rfl
theorem a80 : T.at 80 = some { lp := [(2, ⟨[0, 1, 5], [], [1], []⟩)], rt := ⟨[4], [], [], []⟩ } := by kernel_rfl
theorem a81 : T.at 81 = some { lp := [(2, ⟨[0, 1, 5], [], [1], []⟩)], rt := ⟨[4], [], [], []⟩ } := by kernel_rfl
theorem a82 : T.at 82 = some { lp := [(2, ⟨[0, 1, 5], [], [1], []⟩)], rt := ⟨[4], [], [], []⟩ } := by kernel_rfl
theorem a83 : T.at 83 = some { lp := [(2, ⟨[0, 1, 5], [], [1], []⟩)], rt := ⟨[4], [], [], []⟩ } := by kernel_rfl
theorem a84 : T.at 84 = some { lp := [(2, ⟨[0, 1, 5], [], [1], []⟩)], rt := ⟨[4], [], [], []⟩ } := by kernel_rfl
theorem a85 : T.at 85 = some {} := by kernel_rfl
theorem a86 : T.at 86 = some { lp := [(5, ⟨[0, 1, 5], [], [1], []⟩)], rt := ⟨[4], [], [], []⟩ } := by kernel_rfl
theorem a87 : T.at 87 = some {} := by kernel_rfl
theorem a88 : T.at 88 = some {} := by kernel_rfl
theorem a89 : T.at 89 = some {} := by kernel_rfl
theorem a90 : T.at 90 = some {} := by kernel_rfl
theorem a91 : T.at 91 = some { jn := [(1, (6, 7, 15))] } := by kernel_rfl
theorem a92 : T.at 92 = some { jn := [(1, (19, 8, 19))], sh := [.a [0, 8, 3, 3, 5, 4, 5, 4, 0], .n] } := by kernel_rfl
theorem a93 : T.at 93 = some { lp := [(3, ⟨[0, 3, 4], [.s 3 8], [3], [.s 3 8]⟩)], sh := [.z 8] } := by kernel_rfl
theorem a94 : T.at 94 = some { lp := [(3, ⟨[0, 3, 4], [.s 3 3], [3], [.s 3 3]⟩)], sh := [.z 3] } := by kernel_rfl
theorem a95 : T.at 95 = some { lp := [(3, ⟨[0, 3, 4], [.s 3 5], [3], [.s 3 5]⟩)], sh := [.z 5] } := by kernel_rfl
theorem a96 : T.at 96 = some { lp := [(3, ⟨[0, 3, 4], [.s 3 4], [3], [.s 3 4]⟩)], sh := [.z 4] } := by kernel_rfl
theorem a97 : T.at 97 = some { lp := [(3, ⟨[0, 3, 4], [.s 3 5], [3], [.s 3 5]⟩)], sh := [.z 5] } := by kernel_rfl
theorem a98 : T.at 98 = some { lp := [(3, ⟨[0, 3, 4], [.s 3 4], [3], [.s 3 4]⟩)], sh := [.z 4] } := by kernel_rfl
theorem a99 : T.at 99 = some { ord := [(1, [0, 1, 3, 4, 6, 7, 9, 10, 2, 12, 5, 8, 11, 13, 14, 15, 16, 17, 18, 19]), (2, [0, 1, 3, 4, 6, 7, 2, 9, 5, 8, 10, 11, 12, 13, 14])], sh := [.a [0, 8, 3, 3, 5, 4, 5, 4, 0]] } := by kernel_rfl
theorem QOZ : T.at 100 = some { jn := [(1, (19, 8, 19))], sh := [.a [0, 8, 3, 3, 5, 4, 5, 4, 0], .n] } := by kernel_rfl
theorem QNt : T.at 101 = some { jn := [(1, (6, 7, 15))] } := by kernel_rfl
theorem QMX : T.at 103 = some { sh := [.z 2] } := by kernel_rfl
theorem QMO : T.at 105 = some { jn := [(1, (5, 6, 19)), (3, (19, 20, 30))] } := by kernel_rfl
theorem QKT : T.at 107 = some { sh := [.z 2] } := by kernel_rfl
theorem QN4 : T.at 109 = some { jn := [(1, (5, 6, 19)), (3, (19, 20, 30))] } := by kernel_rfl
theorem QBR : T.at 112 = some { jn := [(4, (22, 12, 22))], lp := [(2, ⟨[0, 1, 5], [], [], []⟩)], rt := ⟨[4], [], [], []⟩ } := by kernel_rfl
theorem QOw : T.at 114 = some {} := by kernel_rfl
theorem QF4 : T.at 116 = some { jn := [(5, (44, 13, 44))], lp := [(3, ⟨[0, 1, 5, 6], [], [0, 5], []⟩)] } := by kernel_rfl
theorem QIk : T.at 117 = some { lp := [(2, ⟨[0, 1, 5], [], [], []⟩)], rt := ⟨[4], [], [], []⟩ } := by kernel_rfl
theorem QQm : T.at 118 = some { sh := [.a [0, 8, 3, 3, 5, 4, 5, 4, 0], .n] } := by kernel_rfl
theorem QQb : T.at 120 = some { sh := [.a [0, 8, 3, 3, 5, 4, 5, 4, 0], .n] } := by kernel_rfl
theorem QM1 : T.at 122 = some { jn := [(2, (24, 11, 24))] } := by kernel_rfl
theorem QKz : T.at 123 = some { jn := [(6, (35, 16, 35))], lp := [(4, ⟨[1, 5, 6, 10, 11, 12], [.s 5 0], [5], [.s 5 0]⟩)] } := by kernel_rfl
theorem QQG : T.at 124 = some { sh := [.a [0, 8, 3, 3, 5, 4, 5, 4, 0], .n] } := by kernel_rfl
theorem QQA : T.at 126 = some { ot := [(1, .one 0 (.one 2 (.alt (.one 1 (.one 3 (.one 4 (.one 5 (.done))))) (.one 3 (.one 1 (.one 4 (.one 5 (.done))))))))], sh := [.z 4, .n] } := by kernel_rfl
theorem QD8 : T.at 127 = some { jn := [(6, (36, 20, 36)), (10, (42, 43, 53))], lp := [(4, ⟨[1, 2, 3, 7], [.s 3 0], [2, 3], [.s 3 0]⟩)], rt := ⟨[6], [], [], []⟩ } := by kernel_rfl
theorem QRc : T.at 128 = some { jn := [(4, (16, 17, 26)), (6, (26, 27, 35)), (8, (35, 36, 44))] } := by kernel_rfl
theorem QOT : T.at 132 = some { ot := [(5, .one 1 (.alt (.one 0 (.alt (.one 2 (.one 3 (.one 4 (.one 5 (.one 6 (.done)))))) (.one 3 (.alt (.one 2 (.one 4 (.one 5 (.one 6 (.done))))) (.one 4 (.one 2 (.one 5 (.one 6 (.done))))))))) (.one 3 (.alt (.one 0 (.alt (.one 2 (.one 4 (.one 5 (.one 6 (.done))))) (.one 4 (.one 2 (.one 5 (.one 6 (.done))))))) (.one 4 (.one 0 (.one 2 (.one 5 (.one 6 (.done))))))))))], sh := [.z 5, .n] } := by kernel_rfl
theorem QQk : T.at 133 = some {} := by kernel_rfl
theorem QMH : T.at 134 = some {} := by kernel_rfl
theorem QOv : T.at 138 = some { ot := [(5, .one 0 (.one 2 (.alt (.one 1 (.one 3 (.one 4 (.one 5 (.done))))) (.one 3 (.one 1 (.one 4 (.one 5 (.done))))))))], sh := [.z 5, .n] } := by kernel_rfl
theorem QNv : T.at 139 = some {} := by kernel_rfl
theorem QLg : T.at 140 = some { jn := [(1, (12, 5, 12))] } := by kernel_rfl
theorem QPj : T.at 141 = some { sh := [.z 2] } := by kernel_rfl
theorem QLI : T.at 142 = some {} := by kernel_rfl
theorem QQd : T.at 143 = some { jn := [(1, (12, 5, 12))] } := by kernel_rfl
theorem QPi : T.at 144 = some { sh := [.z 2] } := by kernel_rfl
theorem QLl : T.at 145 = some {} := by kernel_rfl
theorem QMf : T.at 146 = some {} := by kernel_rfl
theorem QKy : T.at 147 = some { ord := [(5, [0, 1, 2, 3, 4, 5, 6, 7, 8, 9, 10, 11, 13, 14, 15, 16, 17, 12, 18, 19, 20, 21])], eb := [(5, [18])], lp := [(3, ⟨[0, 3, 4], [.s 3 3], [3], [.s 3 3]⟩)], sh := [.z 3] } := by kernel_rfl
theorem QGc : T.at 148 = some { jn := [(4, (35, 10, 35))], lp := [(2, ⟨[0, 3], [], [0], []⟩)], rt := ⟨[2], [], [], []⟩ } := by kernel_rfl
theorem QJ9 : T.at 149 = some { jn := [(4, (61, 10, 61))], lp := [(2, ⟨[0, 3], [], [0], []⟩)], rt := ⟨[2], [], [], []⟩ } := by kernel_rfl
theorem QyL : T.at 150 = some { jn := [(4, (53, 11, 53)), (9, (77, 59, 77))], lp := [(2, ⟨[0, 3], [], [0], []⟩), (7, ⟨[0, 3, 4], [], [0, 3], []⟩)], rt := ⟨[2], [], [], []⟩ } := by kernel_rfl
theorem Qz3 : T.at 151 = some { jn := [(5, (58, 16, 58)), (10, (84, 64, 84))], lp := [(2, ⟨[0, 3], [], [0], []⟩), (8, ⟨[0, 3, 4, 5], [.s 4 0], [0, 3], []⟩)], rt := ⟨[2], [], [], []⟩ } := by kernel_rfl
theorem QEG : T.at 152 = some { jn := [(3, (15, 7, 15)), (7, (67, 25, 67)), (10, (96, 73, 96))], lp := [(3, ⟨[0, 3, 4], [], [0], []⟩)], rt := ⟨[2], [], [], []⟩ } := by kernel_rfl
theorem QFI : T.at 153 = some { jn := [(5, (58, 15, 58))], lp := [(2, ⟨[0, 3], [], [0], []⟩)], rt := ⟨[2], [], [], []⟩ } := by kernel_rfl
theorem QwE : T.at 154 = some { ord := [(13, [0, 1, 2, 3, 4, 5, 6, 7, 8, 9, 10, 11, 14, 15, 12, 13, 16, 17, 18, 19, 20, 21, 22, 23, 24, 25, 26, 27, 28, 29])], jn := [(13, (77, 48, 77)), (18, (103, 85, 103))], lp := [(5, ⟨[1, 3, 4], [.s 1 0, .s 3 1], [1, 3], [.s 1 0, .s 3 1]⟩), (10, ⟨[1, 3, 5], [.s 1 0, .s 3 1], [1], [.s 1 0]⟩), (16, ⟨[1, 7], [.s 1 0], [], []⟩)], rt := ⟨[2], [], [], []⟩ } := by kernel_rfl
theorem QHR : T.at 155 = some { ord := [(8, [0, 1, 2, 3, 4, 5, 6, 7, 8, 9, 10, 11, 12, 13, 14, 15, 16, 17, 18, 19, 20, 21, 22, 23, 24, 25, 26, 27, 28, 29, 30, 32, 33, 34, 35, 36, 38, 31, 37, 39, 40, 41, 42, 43, 44, 45, 46, 47])], jn := [(8, (77, 30, 77))], lp := [(4, ⟨[1, 3], [.s 1 0], [], []⟩)], rt := ⟨[2], [], [], []⟩ } := by kernel_rfl
theorem QIn : T.at 156 = some { jn := [(6, (34, 15, 34))], lp := [(4, ⟨[0, 8, 9, 10], [], [], []⟩)], rt := ⟨[2], [], [], []⟩ } := by kernel_rfl
theorem QFF : T.at 157 = some { jn := [(6, (51, 15, 51))], lp := [(4, ⟨[0, 8, 9, 10], [], [], []⟩)], rt := ⟨[2], [], [], []⟩ } := by kernel_rfl
theorem QFA : T.at 158 = some { jn := [(6, (54, 15, 54))], lp := [(4, ⟨[0, 8, 9, 10], [], [], []⟩)], rt := ⟨[2], [], [], []⟩ } := by kernel_rfl
theorem QAn : T.at 159 = some { jn := [(6, (59, 17, 59)), (11, (82, 68, 82))], lp := [(4, ⟨[0, 10, 11, 12], [], [], []⟩), (9, ⟨[0, 4, 10, 11, 12, 62, 63, 64], [.s 4 0], [0, 10, 11, 12], []⟩)], rt := ⟨[2], [], [], []⟩ } := by kernel_rfl
theorem QHE : T.at 160 = some { jn := [(7, (61, 17, 61)), (13, (83, 73, 83))], lp := [(5, ⟨[0, 3, 10, 11, 12], [], [], []⟩)], rt := ⟨[2], [], [], []⟩ } := by kernel_rfl
theorem QFt : T.at 161 = some { jn := [(6, (58, 15, 58))], lp := [(4, ⟨[0, 8, 9, 10], [], [], []⟩)], rt := ⟨[2], [], [], []⟩ } := by kernel_rfl
theorem QxE : T.at 162 = some { ord := [(7, [0, 1, 2, 3, 4, 5, 6, 7, 8, 9, 10, 11, 12, 13, 14, 15, 18, 19, 20, 21, 16, 17, 22, 23, 24])], jn := [(7, (54, 30, 54)), (13, (73, 63, 73))], lp := [(5, ⟨[1, 3, 23, 24, 25], [.s 1 0, .s 3 1], [1, 3], [.s 1 0, .s 3 1]⟩), (11, ⟨[1, 3, 57, 58, 59], [.s 1 0, .s 3 1], [1, 3], [.s 1 0, .s 3 1]⟩), (17, ⟨[1, 75, 76, 77], [.s 1 0, .s 75 1], [], []⟩)], rt := ⟨[2], [], [], []⟩ } := by kernel_rfl
theorem QG7 : T.at 163 = some { ord := [(7, [0, 1, 2, 3, 4, 5, 6, 7, 8, 9, 10, 11, 12, 13, 14, 15, 16, 17, 18, 19, 20, 21, 22, 24, 26, 27, 23, 25, 28, 29, 30])], jn := [(7, (56, 26, 56))], lp := [(4, ⟨[1, 14, 15, 16], [.s 1 0], [], []⟩)], rt := ⟨[2], [], [], []⟩ } := by kernel_rfl
theorem QuN : T.at 164 = some { lp := [(3, ⟨[1, 3, 13, 14, 15], [.s 1 0], [1, 3], [.s 1 0]⟩), (8, ⟨[1, 3, 25, 26, 27], [.s 1 0], [1, 3], [.s 1 0]⟩), (13, ⟨[1, 3, 37, 38, 39], [.s 1 0], [1, 3], [.s 1 0]⟩), (18, ⟨[3, 49, 50, 51], [], [3], []⟩)] } := by kernel_rfl
theorem QP8 : T.at 165 = some {} := by kernel_rfl
theorem QQY : T.at 166 = some {} := by kernel_rfl
theorem QQP : T.at 167 = some {} := by kernel_rfl
theorem QNZ : T.at 168 = some {} := by kernel_rfl
theorem QNi : T.at 169 = some {} := by kernel_rfl
theorem QJW : T.at 170 = some { lp := [(2, ⟨[0, 1, 5], [], [1], []⟩)], rt := ⟨[4], [], [], []⟩ } := by kernel_rfl
theorem QMk : T.at 171 = some {} := by kernel_rfl
theorem QPo : T.at 172 = some { sh := [.a [0, 2, 0]] } := by kernel_rfl
theorem QN5 : T.at 173 = some {} := by kernel_rfl
theorem QPg : T.at 174 = some {} := by kernel_rfl
theorem QK2 : T.at 175 = some {} := by kernel_rfl
theorem QL8 : T.at 176 = some {} := by kernel_rfl
theorem QQ7 : T.at 177 = some { sh := [.z 8] } := by kernel_rfl
theorem QBq : T.at 178 = some { lp := [(3, ⟨[3, 7, 8, 9], [.s 3 3], [3], [.s 3 3]⟩)], sh := [.z 3] } := by kernel_rfl
theorem QMN : T.at 179 = some { sh := [.z 5] } := by kernel_rfl
theorem QOA : T.at 180 = some { sh := [.z 4] } := by kernel_rfl
theorem QOJ : T.at 181 = some { sh := [.z 5] } := by kernel_rfl
theorem QKi : T.at 182 = some { sh := [.z 4] } := by kernel_rfl
theorem QIx : T.at 183 = some {} := by kernel_rfl
theorem QHW : T.at 184 = some { lp := [(2, ⟨[0, 1, 5], [], [], []⟩)], rt := ⟨[4], [], [], []⟩ } := by kernel_rfl
theorem QN9 : T.at 187 = some { jn := [(1, (2, 3, 26))] } := by kernel_rfl
theorem QCP : T.at 188 = some { jn := [(4, (43, 10, 43))], lp := [(2, ⟨[0, 3], [], [0], []⟩)], rt := ⟨[2], [], [], []⟩ } := by kernel_rfl
theorem QNS : T.at 189 = some {} := by kernel_rfl
theorem QKr : T.at 190 = some { lp := [(2, ⟨[0, 1, 7, 8], [], [], []⟩)], rt := ⟨[4], [], [], []⟩ } := by kernel_rfl
theorem QMR : T.at 192 = some {} := by kernel_rfl
theorem QPP : T.at 193 = some { sh := [.z 2] } := by kernel_rfl
theorem QLH : T.at 196 = some { jn := [(1, (2, 3, 26))] } := by kernel_rfl
theorem QEX : T.at 197 = some { jn := [(6, (39, 15, 39))], lp := [(4, ⟨[0, 8, 9, 10], [], [], []⟩)], rt := ⟨[2], [], [], []⟩ } := by kernel_rfl
theorem QQc : T.at 198 = some {} := by kernel_rfl
theorem QNg : T.at 199 = some {} := by kernel_rfl
theorem QIH : T.at 202 = some { lp := [(2, ⟨[0, 1, 7, 8], [], [], []⟩)], rt := ⟨[4], [], [], []⟩ } := by kernel_rfl
theorem QPv : T.at 203 = some {} := by kernel_rfl
theorem QHD : T.at 206 = some { jn := [(3, (21, 15, 21))], lp := [(6, ⟨[6, 7, 8], [.s 6 3], [6], [.s 6 3]⟩)], sh := [.z 3, .n] } := by kernel_rfl
theorem QML : T.at 207 = some { ot := [(1, .one 1 (.alt (.one 0 (.alt (.one 2 (.one 3 (.one 4 (.one 5 (.one 6 (.done)))))) (.one 3 (.alt (.one 2 (.one 4 (.one 5 (.one 6 (.done))))) (.one 4 (.one 2 (.one 5 (.one 6 (.done))))))))) (.one 3 (.alt (.one 0 (.alt (.one 2 (.one 4 (.one 5 (.one 6 (.done))))) (.one 4 (.one 2 (.one 5 (.one 6 (.done))))))) (.one 4 (.one 0 (.one 2 (.one 5 (.one 6 (.done))))))))))], sh := [.z 4, .n] } := by kernel_rfl
theorem QMz : T.at 208 = some { jn := [(1, (2, 3, 26))] } := by kernel_rfl
theorem QK3 : T.at 209 = some {} := by kernel_rfl
theorem QNY : T.at 210 = some {} := by kernel_rfl
theorem QQK : T.at 211 = some { jn := [(3, (19, 13, 19))], sh := [.z 3, .n] } := by kernel_rfl
theorem QOe : T.at 212 = some { jn := [(1, (2, 3, 26))] } := by kernel_rfl
theorem QLD : T.at 213 = some { jn := [(1, (4, 5, 13))] } := by kernel_rfl
theorem QPy : T.at 214 = some { jn := [(1, (4, 5, 13))] } := by kernel_rfl
theorem QPN : T.at 215 = some { jn := [(1, (3, 4, 14))] } := by kernel_rfl
theorem QO5 : T.at 217 = some {} := by kernel_rfl
theorem QO1 : T.at 221 = some {} := by kernel_rfl
theorem Qw5 : T.at 222 = some { jn := [(4, (26, 11, 26))], lp := [(2, ⟨[0, 3], [], [0], []⟩), (7, ⟨[0, 3, 4], [], [0, 3], []⟩)], rt := ⟨[2], [], [], []⟩ } := by kernel_rfl
theorem Qzw : T.at 223 = some { ot := [(8, .one 1 (.one 2 (.one 3 (.one 5 (.one 6 (.one 11 (.one 12 (.one 13 (.alt (.one 0 (.alt (.one 4 (.one 7 (.one 8 (.one 9 (.one 10 (.one 14 (.one 15 (.done)))))))) (.one 7 (.alt (.one 4 (.one 8 (.one 9 (.one 10 (.one 14 (.one 15 (.done))))))) (.one 8 (.alt (.one 4 (.one 9 (.one 10 (.one 14 (.one 15 (.done)))))) (.one 9 (.one 4 (.one 10 (.one 14 (.one 15 (.done)))))))))))) (.one 7 (.alt (.one 0 (.alt (.one 4 (.one 8 (.one 9 (.one 10 (.one 14 (.one 15 (.done))))))) (.one 8 (.alt (.one 4 (.one 9 (.one 10 (.one 14 (.one 15 (.done)))))) (.one 9 (.one 4 (.one 10 (.one 14 (.one 15 (.done)))))))))) (.one 8 (.alt (.one 0 (.alt (.one 4 (.one 9 (.one 10 (.one 14 (.one 15 (.done)))))) (.one 9 (.one 4 (.one 10 (.one 14 (.one 15 (.done)))))))) (.one 9 (.one 0 (.one 4 (.one 10 (.one 14 (.one 15 (.done))))))))))))))))))))], fz := [(8, [3])], jn := [(6, (30, 15, 30))], lp := [(3, ⟨[0, 3, 4], [.s 3 3], [3], [.s 3 3]⟩), (6, ⟨[0, 3, 4, 5], [.s 3 3], [0, 3, 4, 5], [.s 3 3]⟩)], sh := [.z 3] } := by kernel_rfl
theorem QvR : T.at 224 = some { jn := [(9, (43, 31, 43))], lp := [(4, ⟨[0, 1, 5, 6, 7], [.s 5 1], [0, 1, 5, 6], [.s 5 1]⟩), (13, ⟨[0, 1, 5, 6, 8, 9], [.s 5 1], [5, 8], [.s 5 1]⟩), (18, ⟨[5, 8, 10], [.s 5 1], [5], [.s 5 1]⟩)], rt := ⟨[4], [.s 4 1], [], []⟩, sh := [.z 1] } := by kernel_rfl
theorem QG5 : T.at 225 = some { jn := [(6, (24, 15, 24))], lp := [(4, ⟨[0, 8, 9, 10], [], [], []⟩)], rt := ⟨[2], [], [], []⟩ } := by kernel_rfl
theorem QND : T.at 226 = some { ac := [(2, 0)], sh := [.z 3] } := by kernel_rfl
theorem Qxa : T.at 227 = some { jn := [(2, (23, 15, 23))], lp := [(6, ⟨[0, 1, 5, 6, 25, 26, 27], [.s 5 1], [0, 1, 5, 6], [.s 5 1]⟩), (16, ⟨[0, 5, 6, 9, 43, 44, 45], [.s 5 1], [5, 9], [.s 5 1]⟩), (23, ⟨[5, 9, 13], [.s 5 1], [5], [.s 5 1]⟩)], rt := ⟨[4], [.s 4 1], [], []⟩, sh := [.z 1] } := by kernel_rfl
theorem QCo : T.at 228 = some {} := by kernel_rfl
theorem QBt : T.at 229 = some { jn := [(1, (2, 3, 21))] } := by kernel_rfl
theorem QEm : T.at 230 = some { lp := [(3, ⟨[0, 1, 2, 7, 8], [], [7], []⟩)] } := by kernel_rfl
theorem QHY : T.at 231 = some { jn := [(3, (16, 9, 16)), (6, (42, 28, 42))], lp := [(3, ⟨[0, 1, 5, 6], [.s 5 1], [5], [.s 5 1]⟩)], sh := [.z 1] } := by kernel_rfl
theorem QFP : T.at 232 = some { lp := [(2, ⟨[0, 1, 5], [], [], []⟩)], rt := ⟨[4], [], [], []⟩ } := by kernel_rfl
theorem QLL : T.at 233 = some { jn := [(1, (2, 3, 21))] } := by kernel_rfl
theorem QPt : T.at 234 = some {} := by kernel_rfl
theorem QBM : T.at 235 = some { lp := [(2, ⟨[0, 1, 5], [], [], []⟩)], rt := ⟨[4], [], [], []⟩ } := by kernel_rfl
theorem QB5 : T.at 236 = some { ac := [(10, 0)], jn := [(7, (36, 20, 36))], lp := [(5, ⟨[0, 1, 5, 13, 14, 15], [.s 5 1], [5], [.s 5 1]⟩)], sh := [.z 1] } := by kernel_rfl
theorem QPf : T.at 237 = some {} := by kernel_rfl
theorem QNb : T.at 238 = some {} := by kernel_rfl
theorem QBE : T.at 239 = some { lp := [(2, ⟨[0, 1, 7, 8], [], [], []⟩)], rt := ⟨[4], [], [], []⟩ } := by kernel_rfl
theorem QDv : T.at 241 = some { lp := [(2, ⟨[0, 1, 7, 8], [], [], []⟩)], rt := ⟨[4], [], [], []⟩ } := by kernel_rfl
theorem QNo : T.at 242 = some {} := by kernel_rfl
theorem QGl : T.at 247 = some { lp := [(2, ⟨[0, 1, 7, 8], [], [], []⟩)], rt := ⟨[4], [], [], []⟩ } := by kernel_rfl
theorem QNk : T.at 248 = some {} := by kernel_rfl
theorem QOG : T.at 249 = some {} := by kernel_rfl
theorem QM4 : T.at 250 = some {} := by kernel_rfl
theorem QGp : T.at 251 = some { lp := [(3, ⟨[0, 3, 4], [], [3], []⟩)] } := by kernel_rfl
theorem QKA : T.at 256 = some { lp := [(3, ⟨[3, 6, 7, 8], [], [3], []⟩)] } := by kernel_rfl
theorem QOf : T.at 257 = some { jn := [(1, (2, 3, 11))] } := by kernel_rfl
theorem QQ8 : T.at 258 = some {} := by kernel_rfl
theorem QOz : T.at 259 = some {} := by kernel_rfl
theorem QQx : T.at 260 = some { sh := [.z 3] } := by kernel_rfl
theorem QOV : T.at 261 = some { ak := [0], ac := [(0, 0)] } := by kernel_rfl
theorem QO2 : T.at 262 = some {} := by kernel_rfl
theorem QOg : T.at 263 = some {} := by kernel_rfl
theorem QFB : T.at 264 = some { ot := [(6, .one 1 (.one 2 (.one 3 (.one 5 (.one 8 (.one 9 (.one 10 (.alt (.one 0 (.alt (.one 4 (.one 6 (.one 7 (.one 11 (.one 12 (.done)))))) (.one 6 (.one 4 (.one 7 (.one 11 (.one 12 (.done)))))))) (.one 6 (.one 0 (.one 4 (.one 7 (.one 11 (.one 12 (.done)))))))))))))))], jn := [(2, (17, 6, 17)), (4, (31, 20, 31))], lp := [(2, ⟨[0, 1, 5], [], [0, 1, 5], []⟩)], sh := [.z 1] } := by kernel_rfl
theorem QC2 : T.at 266 = some { lp := [(2, ⟨[0, 1, 7, 8], [], [], []⟩)], rt := ⟨[4], [], [], []⟩ } := by kernel_rfl
theorem QNX : T.at 267 = some {} := by kernel_rfl
theorem QO7 : T.at 270 = some { jn := [(5, (10, 11, 17))] } := by kernel_rfl
theorem QMA : T.at 271 = some {} := by kernel_rfl
theorem QMD : T.at 274 = some {} := by kernel_rfl
theorem QDk : T.at 275 = some { lp := [(2, ⟨[0, 1, 7, 8], [], [], []⟩)], rt := ⟨[4], [], [], []⟩ } := by kernel_rfl
theorem Qxy : T.at 276 = some { ak := [0], ac := [(3, 0), (6, 0)], lp := [(2, ⟨[0, 1, 2, 6, 7, 8], [.s 0 3], [0, 1, 2, 6, 7], [.s 0 3]⟩), (7, ⟨[0, 1, 2, 6], [.s 0 3], [0], [.s 0 3]⟩), (9, ⟨[0, 1, 2, 6, 7, 8], [.s 0 3], [0, 1, 2, 6, 7], [.s 0 3]⟩)] } := by kernel_rfl
theorem QNl : T.at 277 = some {} := by kernel_rfl
theorem QNd : T.at 283 = some {} := by kernel_rfl
theorem QAG : T.at 284 = some { ak := [0], jn := [(4, (34, 18, 34))], lp := [(1, ⟨[0, 1, 2, 3, 8], [.s 0 3], [0], [.s 0 3]⟩), (4, ⟨[0, 1, 2, 3, 8, 9], [.s 0 3], [0, 1, 2, 3, 8], [.s 0 3]⟩)] } := by kernel_rfl
end Go.Proofs.YtcdffihcfeajfaaGreat
