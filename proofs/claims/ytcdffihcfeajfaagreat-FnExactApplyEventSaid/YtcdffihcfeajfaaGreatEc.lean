import Derived.Test.YtcdffihcfeajfaaGreatEvB
import Derived.Test.YtcdffihcfeajfaaGreatFn
import Derived.Test.YtcdffihcfeajfaaGreatProg
import Derived.KernelRfl
namespace Go.Proofs.YtcdffihcfeajfaaGreat
open Go Go.Proofs Go.Proofs.YtcdffihcfeajfaaGreat.Am
set_option maxHeartbeats 4000000
set_option linter.unusedVariables false
set_option linter.unusedSimpArgs false
set_option linter.defProp false
set_option maxRecDepth 100000
def Vf (x : Int) : List AV := [.i .i64 x]
theorem QmW (x : Int) : Vf x = [.i .i64 x] := _root_.id rfl
instance (x : Int) : EncR Vf [.i .i64 x] x := ⟨rfl⟩
theorem QF5 (xs : List Int) : QA (xs.map Vf) = xs.map Vf := QbE (fun x => by simp only [QmW, VD, Xf]) xs
theorem QF2 (xs : List Int) : Qs (xs.map Vf) = true := ZN (fun x => by simp only [QmW, X0, AV.clean, Bool.and_self]) xs
theorem QE4 {R : List (List AV)} {xs : List Int} (i : Int) [h : EncL Vf R xs] : inb R i = inb xs i := by rw [h.eq, QrW]
theorem QGw {R : List (List AV)} {xs : List Int} (i : Int) [h : EncL Vf R xs] (hi : inb xs i = true) : QM R i.toNat = Vf (gt xs i) := by rw [h.eq, QsU xs i hi]
theorem QFw (xs : List Int) : Qbv (xs.map Vf) = true := Qov (fun x => by rw [QmW]; rfl) xs
def Qrk (x : Int) : List AV := [.i .u8 x]
theorem Qq5 (x : Int) : Qrk x = [.i .u8 x] := _root_.id rfl
instance (x : Int) : EncR Qrk [.i .u8 x] x := ⟨rfl⟩
theorem QMw (xs : List Int) : QA (xs.map Qrk) = xs.map Qrk := QbE (fun x => by simp only [Qq5, VD, Xf]) xs
theorem QNi (xs : List Int) : Qs (xs.map Qrk) = true := ZN (fun x => by simp only [Qq5, X0, AV.clean, Bool.and_self]) xs
theorem QLI {R : List (List AV)} {xs : List Int} (i : Int) [h : EncL Qrk R xs] : inb R i = inb xs i := by rw [h.eq, QrW]
theorem QIc {R : List (List AV)} {xs : List Int} (i : Int) [h : EncL Qrk R xs] (hi : inb xs i = true) : QM R i.toNat = Qrk (gt xs i) := by rw [h.eq, QsU xs i hi]
theorem QMA (xs : List Int) : Qbv (xs.map Qrk) = true := Qov (fun x => by rw [Qq5]; rfl) xs
def c_b (x : Bool) : List AV := [.b x]
theorem QuB (x : Bool) : c_b x = [.b x] := _root_.id rfl
instance (x : Bool) : EncR c_b [.b x] x := ⟨rfl⟩
theorem QQ3 (xs : List Bool) : QA (xs.map c_b) = xs.map c_b := QbE (fun x => by simp only [QuB, VD, Xf]) xs
theorem QP1 (xs : List Bool) : Qs (xs.map c_b) = true := ZN (fun x => by simp only [QuB, X0, AV.clean, Bool.and_self]) xs
theorem QUg {R : List (List AV)} {xs : List Bool} (i : Int) [h : EncL c_b R xs] : inb R i = inb xs i := by rw [h.eq, QrW]
theorem QQt {R : List (List AV)} {xs : List Bool} (i : Int) [h : EncL c_b R xs] (hi : inb xs i = true) : QM R i.toNat = c_b (gt xs i) := by rw [h.eq, QsU xs i hi]
theorem QUI (xs : List Bool) : Qbv (xs.map c_b) = true := Qov (fun x => by rw [QuB]; rfl) xs
def c_s (x : List UInt8) : List AV := [.s x]
theorem QuJ (x : List UInt8) : c_s x = [.s x] := _root_.id rfl
instance (x : List UInt8) : EncR c_s [.s x] x := ⟨rfl⟩
theorem QUC (xs : List (List UInt8)) : QA (xs.map c_s) = xs.map c_s := QbE (fun x => by simp only [QuJ, VD, Xf]) xs
theorem QPT (xs : List (List UInt8)) : Qs (xs.map c_s) = true := ZN (fun x => by simp only [QuJ, X0, AV.clean, Bool.and_self]) xs
theorem QSA {R : List (List AV)} {xs : List (List UInt8)} (i : Int) [h : EncL c_s R xs] : inb R i = inb xs i := by rw [h.eq, QrW]
theorem QUc {R : List (List AV)} {xs : List (List UInt8)} (i : Int) [h : EncL c_s R xs] (hi : inb xs i = true) : QM R i.toNat = c_s (gt xs i) := by rw [h.eq, QsU xs i hi]
theorem QTv (xs : List (List UInt8)) : Qbv (xs.map c_s) = true := Qov (fun x => by rw [QuJ]; rfl) xs
def ZR (x : Thing) : List AV := [.i .i64 x.Id, .i .i64 x.Kind, .i .i64 x.Colour, .i .i64 x.Size, .i .i64 x.Worth]
theorem QnC (x : Thing) : ZR x = [.i .i64 x.Id, .i .i64 x.Kind, .i .i64 x.Colour, .i .i64 x.Size, .i .i64 x.Worth] := _root_.id rfl
instance (yxId yxKind yxColour yxSize yxWorth)  : EncR ZR [.i .i64 yxId, .i .i64 yxKind, .i .i64 yxColour, .i .i64 yxSize, .i .i64 yxWorth] (⟨yxId, yxKind, yxColour, yxSize, yxWorth⟩ : Thing) := ⟨by rfl⟩
theorem QzE (xs : List Thing) : QA (xs.map ZR) = xs.map ZR := QbE (fun x => by simp only [QnC, VD, Xf]) xs
theorem QxP (xs : List Thing) : Qs (xs.map ZR) = true := ZN (fun x => by simp only [QnC, X0, AV.clean, Bool.and_self]) xs
theorem Qzq (x : Thing) : (⟨x.Id, x.Kind, x.Colour, x.Size, x.Worth⟩ : Thing) = x := _root_.id rfl
def Qv (x : Find) : List AV := [.i .i64 x.Thing.Id, .i .i64 x.Thing.Kind, .i .i64 x.Thing.Colour, .i .i64 x.Thing.Size, .i .i64 x.Thing.Worth, .i .i64 x.Place, .i .i64 x.At, .i .i64 x.Finder]
theorem Qqu (x : Find) : Qv x = [.i .i64 x.Thing.Id, .i .i64 x.Thing.Kind, .i .i64 x.Thing.Colour, .i .i64 x.Thing.Size, .i .i64 x.Thing.Worth, .i .i64 x.Place, .i .i64 x.At, .i .i64 x.Finder] := _root_.id rfl
instance (yxThingxId yxThingxKind yxThingxColour yxThingxSize yxThingxWorth yxPlace yxAt yxFinder)  : EncR Qv [.i .i64 yxThingxId, .i .i64 yxThingxKind, .i .i64 yxThingxColour, .i .i64 yxThingxSize, .i .i64 yxThingxWorth, .i .i64 yxPlace, .i .i64 yxAt, .i .i64 yxFinder] (⟨⟨yxThingxId, yxThingxKind, yxThingxColour, yxThingxSize, yxThingxWorth⟩, yxPlace, yxAt, yxFinder⟩ : Find) := ⟨by rfl⟩
theorem Qun (xs : List Find) : QA (xs.map Qv) = xs.map Qv := QbE (fun x => by simp only [Qqu, VD, Xf]) xs
theorem Qm2 (xs : List Find) : Qs (xs.map Qv) = true := ZN (fun x => by simp only [Qqu, X0, AV.clean, Bool.and_self]) xs
theorem QAR (x : Find) : (⟨x.Thing, x.Place, x.At, x.Finder⟩ : Find) = x := _root_.id rfl
def Q9 (x : Mark) : List AV := [.i .i64 x.Question, .i .i64 x.Answer]
theorem Qp8 (x : Mark) : Q9 x = [.i .i64 x.Question, .i .i64 x.Answer] := _root_.id rfl
instance (yxQuestion yxAnswer)  : EncR Q9 [.i .i64 yxQuestion, .i .i64 yxAnswer] (⟨yxQuestion, yxAnswer⟩ : Mark) := ⟨by rfl⟩
theorem QqT (xs : List Mark) : QA (xs.map Q9) = xs.map Q9 := QbE (fun x => by simp only [Qp8, VD, Xf]) xs
theorem Qqn (xs : List Mark) : Qs (xs.map Q9) = true := ZN (fun x => by simp only [Qp8, X0, AV.clean, Bool.and_self]) xs
theorem QCd (x : Mark) : (⟨x.Question, x.Answer⟩ : Mark) = x := _root_.id rfl
def QC (x : Secret) : List AV := [.i .i64 x.Thing, .imm 2 (x.Marks.map Q9), .i .i64 x.Salt]
theorem QpP (x : Secret) : QC x = [.i .i64 x.Thing, .imm 2 (x.Marks.map Q9), .i .i64 x.Salt] := _root_.id rfl
instance (yxThing yxSalt) {R1 yxMarks} [H1 : EncL Q9 R1 yxMarks] : EncR QC [.i .i64 yxThing, .imm 2 R1, .i .i64 yxSalt] (⟨yxThing, yxMarks, yxSalt⟩ : Secret) := ⟨by obtain ⟨rfl⟩ := H1; rfl⟩
def QG (x : Secret) : List AV := [.i .i64 x.Thing, .own 2 (x.Marks.map Q9), .i .i64 x.Salt]
theorem QiI (x : Secret) : QG x = [.i .i64 x.Thing, .own 2 (x.Marks.map Q9), .i .i64 x.Salt] := _root_.id rfl
instance (yxThing yxSalt) {R1 yxMarks} [H1 : EncL Q9 R1 yxMarks] : EncR QG [.i .i64 yxThing, .own 2 R1, .i .i64 yxSalt] (⟨yxThing, yxMarks, yxSalt⟩ : Secret) := ⟨by obtain ⟨rfl⟩ := H1; rfl⟩
theorem QpE (xs : List Secret) : QA (xs.map QG) = xs.map QC := QbE (fun x => by simp only [QiI, QpP, VD, Xf, QqT]) xs
theorem QhF (xs : List Secret) : Qs (xs.map QG) = true := ZN (fun x => by simp only [QiI, X0, AV.clean, Bool.and_self, Qqn]) xs
theorem Qvw (x : Secret) : (⟨x.Thing, x.Marks, x.Salt⟩ : Secret) = x := _root_.id rfl
def Qg (x : Claim) : List AV := [.i .i64 x.Id, .i .i64 x.Who, .i .i64 x.Thing, .i .i64 x.At, .i .i64 x.State]
theorem Qn7 (x : Claim) : Qg x = [.i .i64 x.Id, .i .i64 x.Who, .i .i64 x.Thing, .i .i64 x.At, .i .i64 x.State] := _root_.id rfl
instance (yxId yxWho yxThing yxAt yxState)  : EncR Qg [.i .i64 yxId, .i .i64 yxWho, .i .i64 yxThing, .i .i64 yxAt, .i .i64 yxState] (⟨yxId, yxWho, yxThing, yxAt, yxState⟩ : Claim) := ⟨by rfl⟩
theorem QrM (xs : List Claim) : QA (xs.map Qg) = xs.map Qg := QbE (fun x => by simp only [Qn7, VD, Xf]) xs
theorem QkC (xs : List Claim) : Qs (xs.map Qg) = true := ZN (fun x => by simp only [Qn7, X0, AV.clean, Bool.and_self]) xs
theorem QxY (x : Claim) : (⟨x.Id, x.Who, x.Thing, x.At, x.State⟩ : Claim) = x := _root_.id rfl
def QJ (x : Trial) : List AV := [.i .i64 x.Claim, .i .i64 x.Asked, .i .i64 x.Right, .i .i64 x.Wrong]
theorem Qnc (x : Trial) : QJ x = [.i .i64 x.Claim, .i .i64 x.Asked, .i .i64 x.Right, .i .i64 x.Wrong] := _root_.id rfl
instance (yxClaim yxAsked yxRight yxWrong)  : EncR QJ [.i .i64 yxClaim, .i .i64 yxAsked, .i .i64 yxRight, .i .i64 yxWrong] (⟨yxClaim, yxAsked, yxRight, yxWrong⟩ : Trial) := ⟨by rfl⟩
theorem Qsh (xs : List Trial) : QA (xs.map QJ) = xs.map QJ := QbE (fun x => by simp only [Qnc, VD, Xf]) xs
theorem Qjw (xs : List Trial) : Qs (xs.map QJ) = true := ZN (fun x => by simp only [Qnc, X0, AV.clean, Bool.and_self]) xs
theorem QyA (x : Trial) : (⟨x.Claim, x.Asked, x.Right, x.Wrong⟩ : Trial) = x := _root_.id rfl
def QP (x : Slot) : List AV := [.i .i64 x.Id, .i .i64 x.Size, .i .i64 x.Thing]
theorem Qqq (x : Slot) : QP x = [.i .i64 x.Id, .i .i64 x.Size, .i .i64 x.Thing] := _root_.id rfl
instance (yxId yxSize yxThing)  : EncR QP [.i .i64 yxId, .i .i64 yxSize, .i .i64 yxThing] (⟨yxId, yxSize, yxThing⟩ : Slot) := ⟨by rfl⟩
theorem Quu (xs : List Slot) : QA (xs.map QP) = xs.map QP := QbE (fun x => by simp only [Qqq, VD, Xf]) xs
theorem Qux (xs : List Slot) : Qs (xs.map QP) = true := ZN (fun x => by simp only [Qqq, X0, AV.clean, Bool.and_self]) xs
theorem QA4 (x : Slot) : (⟨x.Id, x.Size, x.Thing⟩ : Slot) = x := _root_.id rfl
def Va (x : Hand) : List AV := [.i .i64 x.Thing, .i .i64 x.Holder, .i .i64 x.Who, .i .i64 x.At, .i .i64 x.Seal]
theorem QqE (x : Hand) : Va x = [.i .i64 x.Thing, .i .i64 x.Holder, .i .i64 x.Who, .i .i64 x.At, .i .i64 x.Seal] := _root_.id rfl
instance (yxThing yxHolder yxWho yxAt yxSeal)  : EncR Va [.i .i64 yxThing, .i .i64 yxHolder, .i .i64 yxWho, .i .i64 yxAt, .i .i64 yxSeal] (⟨yxThing, yxHolder, yxWho, yxAt, yxSeal⟩ : Hand) := ⟨by rfl⟩
theorem Quk (xs : List Hand) : QA (xs.map Va) = xs.map Va := QbE (fun x => by simp only [QqE, VD, Xf]) xs
theorem QuL (xs : List Hand) : Qs (xs.map Va) = true := ZN (fun x => by simp only [QqE, X0, AV.clean, Bool.and_self]) xs
theorem QAM (x : Hand) : (⟨x.Thing, x.Holder, x.Who, x.At, x.Seal⟩ : Hand) = x := _root_.id rfl
def QX (x : Entry) : List AV := [.i .i64 x.From, .i .i64 x.To, .i .i64 x.Cents, .i .i64 x.At]
theorem QoW (x : Entry) : QX x = [.i .i64 x.From, .i .i64 x.To, .i .i64 x.Cents, .i .i64 x.At] := _root_.id rfl
instance (yxFrom yxTo yxCents yxAt)  : EncR QX [.i .i64 yxFrom, .i .i64 yxTo, .i .i64 yxCents, .i .i64 yxAt] (⟨yxFrom, yxTo, yxCents, yxAt⟩ : Entry) := ⟨by rfl⟩
theorem QrG (xs : List Entry) : QA (xs.map QX) = xs.map QX := QbE (fun x => by simp only [QoW, VD, Xf]) xs
theorem QrV (xs : List Entry) : Qs (xs.map QX) = true := ZN (fun x => by simp only [QoW, X0, AV.clean, Bool.and_self]) xs
theorem QwC (x : Entry) : (⟨x.From, x.To, x.Cents, x.At⟩ : Entry) = x := _root_.id rfl
def QD (x : House) : List AV := [.i .i64 x.No, .imm 8 (x.Finds.map Qv), .imm 3 (x.Secrets.map QC), .imm 3 (x.Slots.map QP), .imm 5 (x.Claims.map Qg), .imm 4 (x.Trials.map QJ), .imm 5 (x.Chain.map Va), .imm 4 (x.Book.map QX), .i .i64 x.Now]
theorem Qsk (x : House) : QD x = [.i .i64 x.No, .imm 8 (x.Finds.map Qv), .imm 3 (x.Secrets.map QC), .imm 3 (x.Slots.map QP), .imm 5 (x.Claims.map Qg), .imm 4 (x.Trials.map QJ), .imm 5 (x.Chain.map Va), .imm 4 (x.Book.map QX), .i .i64 x.Now] := _root_.id rfl
instance (yxNo yxNow) {R1 yxFinds R2 yxSecrets R3 yxSlots R4 yxClaims R5 yxTrials R6 yxChain R7 yxBook} [H1 : EncL Qv R1 yxFinds] [H2 : EncL QC R2 yxSecrets] [H3 : EncL QP R3 yxSlots] [H4 : EncL Qg R4 yxClaims] [H5 : EncL QJ R5 yxTrials] [H6 : EncL Va R6 yxChain] [H7 : EncL QX R7 yxBook] : EncR QD [.i .i64 yxNo, .imm 8 R1, .imm 3 R2, .imm 3 R3, .imm 5 R4, .imm 4 R5, .imm 5 R6, .imm 4 R7, .i .i64 yxNow] (⟨yxNo, yxFinds, yxSecrets, yxSlots, yxClaims, yxTrials, yxChain, yxBook, yxNow⟩ : House) := ⟨by obtain ⟨rfl⟩ := H1; obtain ⟨rfl⟩ := H2; obtain ⟨rfl⟩ := H3; obtain ⟨rfl⟩ := H4; obtain ⟨rfl⟩ := H5; obtain ⟨rfl⟩ := H6; obtain ⟨rfl⟩ := H7; rfl⟩
def VG (x : House) : List AV := [.i .i64 x.No, .own 8 (x.Finds.map Qv), .own 3 (x.Secrets.map QG), .own 3 (x.Slots.map QP), .own 5 (x.Claims.map Qg), .own 4 (x.Trials.map QJ), .own 5 (x.Chain.map Va), .own 4 (x.Book.map QX), .i .i64 x.Now]
theorem QlC (x : House) : VG x = [.i .i64 x.No, .own 8 (x.Finds.map Qv), .own 3 (x.Secrets.map QG), .own 3 (x.Slots.map QP), .own 5 (x.Claims.map Qg), .own 4 (x.Trials.map QJ), .own 5 (x.Chain.map Va), .own 4 (x.Book.map QX), .i .i64 x.Now] := _root_.id rfl
instance (yxNo yxNow) {R1 yxFinds R2 yxSecrets R3 yxSlots R4 yxClaims R5 yxTrials R6 yxChain R7 yxBook} [H1 : EncL Qv R1 yxFinds] [H2 : EncL QG R2 yxSecrets] [H3 : EncL QP R3 yxSlots] [H4 : EncL Qg R4 yxClaims] [H5 : EncL QJ R5 yxTrials] [H6 : EncL Va R6 yxChain] [H7 : EncL QX R7 yxBook] : EncR VG [.i .i64 yxNo, .own 8 R1, .own 3 R2, .own 3 R3, .own 5 R4, .own 4 R5, .own 5 R6, .own 4 R7, .i .i64 yxNow] (⟨yxNo, yxFinds, yxSecrets, yxSlots, yxClaims, yxTrials, yxChain, yxBook, yxNow⟩ : House) := ⟨by obtain ⟨rfl⟩ := H1; obtain ⟨rfl⟩ := H2; obtain ⟨rfl⟩ := H3; obtain ⟨rfl⟩ := H4; obtain ⟨rfl⟩ := H5; obtain ⟨rfl⟩ := H6; obtain ⟨rfl⟩ := H7; rfl⟩
theorem Qzo (xs : List House) : QA (xs.map VG) = xs.map QD := QbE (fun x => by simp only [QlC, Qsk, VD, Xf, QrM, QrG, Qun, Quk, QpE, Quu, Qsh]) xs
theorem Qxq (xs : List House) : Qs (xs.map VG) = true := ZN (fun x => by simp only [QlC, X0, AV.clean, Bool.and_self, QkC, QrV, Qm2, QuL, QhF, Qux, Qjw]) xs
theorem Qzl (x : House) : (⟨x.No, x.Finds, x.Secrets, x.Slots, x.Claims, x.Trials, x.Chain, x.Book, x.Now⟩ : House) = x := _root_.id rfl
def Vu (x : Bid) : List AV := [.i .i64 x.Who, .i .i64 x.Cents, .i .i64 x.Seal]
theorem Qp6 (x : Bid) : Vu x = [.i .i64 x.Who, .i .i64 x.Cents, .i .i64 x.Seal] := _root_.id rfl
instance (yxWho yxCents yxSeal)  : EncR Vu [.i .i64 yxWho, .i .i64 yxCents, .i .i64 yxSeal] (⟨yxWho, yxCents, yxSeal⟩ : Bid) := ⟨by rfl⟩
theorem QxV (xs : List Bid) : QA (xs.map Vu) = xs.map Vu := QbE (fun x => by simp only [Qp6, VD, Xf]) xs
theorem Qy2 (xs : List Bid) : Qs (xs.map Vu) = true := ZN (fun x => by simp only [Qp6, X0, AV.clean, Bool.and_self]) xs
theorem QFk (x : Bid) : (⟨x.Who, x.Cents, x.Seal⟩ : Bid) = x := _root_.id rfl
theorem QF6 (xs : List Bid) : Qbv (xs.map Vu) = true := Qov (fun x => by rw [Qp6]; rfl) xs
def QdZ (x : Event) : List AV := [.i .i64 x.Kind, .i .i64 x.Find.Thing.Id, .i .i64 x.Find.Thing.Kind, .i .i64 x.Find.Thing.Colour, .i .i64 x.Find.Thing.Size, .i .i64 x.Find.Thing.Worth, .i .i64 x.Find.Place, .i .i64 x.Find.At, .i .i64 x.Find.Finder, .imm 2 (x.Marks.map Q9), .i .i64 x.Id, .i .i64 x.Who, .i .i64 x.N, .imm 3 (x.Bids.map Vu)]
theorem QrF (x : Event) : QdZ x = [.i .i64 x.Kind, .i .i64 x.Find.Thing.Id, .i .i64 x.Find.Thing.Kind, .i .i64 x.Find.Thing.Colour, .i .i64 x.Find.Thing.Size, .i .i64 x.Find.Thing.Worth, .i .i64 x.Find.Place, .i .i64 x.Find.At, .i .i64 x.Find.Finder, .imm 2 (x.Marks.map Q9), .i .i64 x.Id, .i .i64 x.Who, .i .i64 x.N, .imm 3 (x.Bids.map Vu)] := _root_.id rfl
instance (yxKind yxFindxThingxId yxFindxThingxKind yxFindxThingxColour yxFindxThingxSize yxFindxThingxWorth yxFindxPlace yxFindxAt yxFindxFinder yxId yxWho yxN) {R1 yxMarks R2 yxBids} [H1 : EncL Q9 R1 yxMarks] [H2 : EncL Vu R2 yxBids] : EncR QdZ [.i .i64 yxKind, .i .i64 yxFindxThingxId, .i .i64 yxFindxThingxKind, .i .i64 yxFindxThingxColour, .i .i64 yxFindxThingxSize, .i .i64 yxFindxThingxWorth, .i .i64 yxFindxPlace, .i .i64 yxFindxAt, .i .i64 yxFindxFinder, .imm 2 R1, .i .i64 yxId, .i .i64 yxWho, .i .i64 yxN, .imm 3 R2] (⟨yxKind, ⟨⟨yxFindxThingxId, yxFindxThingxKind, yxFindxThingxColour, yxFindxThingxSize, yxFindxThingxWorth⟩, yxFindxPlace, yxFindxAt, yxFindxFinder⟩, yxMarks, yxId, yxWho, yxN, yxBids⟩ : Event) := ⟨by obtain ⟨rfl⟩ := H1; obtain ⟨rfl⟩ := H2; rfl⟩
def Qkz (x : Event) : List AV := [.i .i64 x.Kind, .i .i64 x.Find.Thing.Id, .i .i64 x.Find.Thing.Kind, .i .i64 x.Find.Thing.Colour, .i .i64 x.Find.Thing.Size, .i .i64 x.Find.Thing.Worth, .i .i64 x.Find.Place, .i .i64 x.Find.At, .i .i64 x.Find.Finder, .own 2 (x.Marks.map Q9), .i .i64 x.Id, .i .i64 x.Who, .i .i64 x.N, .own 3 (x.Bids.map Vu)]
theorem QkZ (x : Event) : Qkz x = [.i .i64 x.Kind, .i .i64 x.Find.Thing.Id, .i .i64 x.Find.Thing.Kind, .i .i64 x.Find.Thing.Colour, .i .i64 x.Find.Thing.Size, .i .i64 x.Find.Thing.Worth, .i .i64 x.Find.Place, .i .i64 x.Find.At, .i .i64 x.Find.Finder, .own 2 (x.Marks.map Q9), .i .i64 x.Id, .i .i64 x.Who, .i .i64 x.N, .own 3 (x.Bids.map Vu)] := _root_.id rfl
instance (yxKind yxFindxThingxId yxFindxThingxKind yxFindxThingxColour yxFindxThingxSize yxFindxThingxWorth yxFindxPlace yxFindxAt yxFindxFinder yxId yxWho yxN) {R1 yxMarks R2 yxBids} [H1 : EncL Q9 R1 yxMarks] [H2 : EncL Vu R2 yxBids] : EncR Qkz [.i .i64 yxKind, .i .i64 yxFindxThingxId, .i .i64 yxFindxThingxKind, .i .i64 yxFindxThingxColour, .i .i64 yxFindxThingxSize, .i .i64 yxFindxThingxWorth, .i .i64 yxFindxPlace, .i .i64 yxFindxAt, .i .i64 yxFindxFinder, .own 2 R1, .i .i64 yxId, .i .i64 yxWho, .i .i64 yxN, .own 3 R2] (⟨yxKind, ⟨⟨yxFindxThingxId, yxFindxThingxKind, yxFindxThingxColour, yxFindxThingxSize, yxFindxThingxWorth⟩, yxFindxPlace, yxFindxAt, yxFindxFinder⟩, yxMarks, yxId, yxWho, yxN, yxBids⟩ : Event) := ⟨by obtain ⟨rfl⟩ := H1; obtain ⟨rfl⟩ := H2; rfl⟩
theorem QzL (xs : List Event) : QA (xs.map Qkz) = xs.map QdZ := QbE (fun x => by simp only [QkZ, QrF, VD, Xf, QxV, QqT]) xs
theorem Qww (xs : List Event) : Qs (xs.map Qkz) = true := ZN (fun x => by simp only [QkZ, X0, AV.clean, Bool.and_self, Qy2, Qqn]) xs
theorem QyF (x : Event) : (⟨x.Kind, x.Find, x.Marks, x.Id, x.Who, x.N, x.Bids⟩ : Event) = x := _root_.id rfl
def Qiz (x : Share) : List AV := [.i .i64 x.Who, .i .i64 x.Cents]
theorem Qnh (x : Share) : Qiz x = [.i .i64 x.Who, .i .i64 x.Cents] := _root_.id rfl
instance (yxWho yxCents)  : EncR Qiz [.i .i64 yxWho, .i .i64 yxCents] (⟨yxWho, yxCents⟩ : Share) := ⟨by rfl⟩
theorem Qzh (xs : List Share) : QA (xs.map Qiz) = xs.map Qiz := QbE (fun x => by simp only [Qnh, VD, Xf]) xs
theorem Qyu (xs : List Share) : Qs (xs.map Qiz) = true := ZN (fun x => by simp only [Qnh, X0, AV.clean, Bool.and_self]) xs
theorem QxB (x : Share) : (⟨x.Who, x.Cents⟩ : Share) = x := _root_.id rfl
def QO4 := aI @QmW <| aI @QF5 <| aI @QF2 <| aI @QE4 <| aI @QGw <| aI @QFw <| aI @Qq5 <| aI @QMw <| aI @QNi <| aI @QLI <| aI @QIc <| aI @QMA <| aI @QuB <| aI @QQ3 <| aI @QP1 <| aI @QUg <| aI @QQt <| aI @QUI <| aI @QuJ <| aI @QUC <| aI @QPT <| aI @QSA <| aI @QUc <| aI @QTv <| aI @QnC <| aI @QzE <| aI @QxP <| aI @Qzq <| aI @Qqu <| aI @Qun <| aI @Qm2 <| aI @QAR <| aI @Qp8 <| aI @QqT <| aI @Qqn <| aI @QCd <| aI @QpP <| aI @QpE <| aI @QhF <| aI @Qvw <| aI @QiI <| aI @Qn7 <| aI @QrM <| aI @QkC <| aI @QxY <| aI @Qnc <| aI @Qsh <| aI @Qjw <| aI @QyA <| aI @Qqq <| aI @Quu <| aI @Qux <| aI @QA4 <| aI @QqE <| aI @Quk <| aI @QuL <| aI @QAM <| aI @QoW <| aI @QrG <| aI @QrV <| aI @QwC <| aI @Qsk <| aI @Qzo <| aI @Qxq <| aI @Qzl <| aI @QlC <| aI @Qp6 <| aI @QxV <| aI @Qy2 <| aI @QFk <| aI @QF6 <| aI @QrF <| aI @QzL <| aI @Qww <| aI @QyF <| aI @QkZ <| aI @Qnh <| aI @Qzh <| aI @Qyu @QxB
theorem tys : flT Tryz.prog 160 = false ∧ Qfj Tryz.prog 24 = true ∧ Qfj Tryz.prog 26 = true ∧ Qfj Tryz.prog 27 = true ∧ Qfj Tryz.prog 28 = true ∧ Qfj Tryz.prog 29 = true ∧ Qfj Tryz.prog 30 = true ∧ Qfj Tryz.prog 68 = true ∧ Qfj Tryz.prog 76 = true ∧ slz Tryz.prog 9 160 = [0, 2, 0] ∧ Qe6 Tryz.prog 175 = [0, 0] ∧ Qe6 Tryz.prog 215 = [0] ∧ Qe6 Tryz.prog 237 = [0] ∧ Qe6 Tryz.prog 24 = [0, 0, 0, 0, 0, 0, 0, 0] ∧ Qe6 Tryz.prog 25 = [0, 2, 0] ∧ Qe6 Tryz.prog 26 = [0, 0, 0] ∧ Qe6 Tryz.prog 27 = [0, 0, 0, 0, 0] ∧ Qe6 Tryz.prog 28 = [0, 0, 0, 0] ∧ Qe6 Tryz.prog 29 = [0, 0, 0, 0, 0] ∧ Qe6 Tryz.prog 30 = [0, 0, 0, 0] ∧ Qe6 Tryz.prog 68 = [0, 0] ∧ Qe6 Tryz.prog 76 = [0, 0, 0] ∧ tb Tryz.prog 103 = some 24 ∧ tb Tryz.prog 136 = some 40 ∧ tb Tryz.prog 139 = some 32 ∧ tb Tryz.prog 153 = some 32 ∧ tb Tryz.prog 160 = some 40 ∧ tb Tryz.prog 166 = some 40 ∧ tb Tryz.prog 169 = some 16 ∧ tb Tryz.prog 180 = some 24 ∧ tb Tryz.prog 3 = some 8 ∧ tb Tryz.prog 66 = some 64 ∧ tbd Tryz.prog 136 = .st [.i .i64 0, .i .i64 0, .i .i64 0, .i .i64 0, .i .i64 0] [(0, 1), (1, 1), (2, 1), (3, 1), (4, 1)] ∧ tbd Tryz.prog 139 = .st [.i .i64 0, .i .i64 0, .i .i64 0, .i .i64 0] [(0, 1), (1, 1), (2, 1), (3, 1)] ∧ tbd Tryz.prog 153 = .st [.i .i64 0, .i .i64 0, .i .i64 0, .i .i64 0] [(0, 1), (1, 1), (2, 1), (3, 1)] ∧ tbd Tryz.prog 160 = .st [.i .i64 0, .nil, .i .i64 0] [(0, 1), (1, 1), (2, 1)] ∧ tbd Tryz.prog 166 = .st [.i .i64 0, .i .i64 0, .i .i64 0, .i .i64 0, .i .i64 0] [(0, 1), (1, 1), (2, 1), (3, 1), (4, 1)] ∧ tbd Tryz.prog 178 = .st [.i .i64 0, .i .i64 0] [(0, 1), (1, 1)] ∧ tbd Tryz.prog 32 = .st [.i .i64 0, .nil, .nil, .nil, .nil, .nil, .nil, .nil, .i .i64 0] [(0, 1), (1, 1), (2, 1), (3, 1), (4, 1), (5, 1), (6, 1), (7, 1), (8, 1)] ∧ tbd Tryz.prog 66 = .st [.i .i64 0, .i .i64 0, .i .i64 0, .i .i64 0, .i .i64 0, .i .i64 0, .i .i64 0, .i .i64 0] [(0, 5), (5, 1), (6, 1), (7, 1)] ∧ Qms Tryz.prog 4 = some [.t] ∧ tfo Tryz.prog 103 0 = some (0, .one) ∧ tfo Tryz.prog 103 1 = some (1, .one) ∧ tfo Tryz.prog 103 2 = some (2, .one) ∧ tfo Tryz.prog 105 0 = some (0, .one) ∧ tfo Tryz.prog 105 1 = some (1, .one) ∧ tfo Tryz.prog 105 2 = some (2, .one) ∧ tfo Tryz.prog 136 0 = some (0, .one) ∧ tfo Tryz.prog 136 1 = some (1, .one) ∧ tfo Tryz.prog 136 2 = some (2, .one) ∧ tfo Tryz.prog 136 3 = some (3, .one) ∧ tfo Tryz.prog 136 4 = some (4, .one) ∧ tfo Tryz.prog 139 0 = some (0, .one) ∧ tfo Tryz.prog 139 1 = some (1, .one) ∧ tfo Tryz.prog 139 2 = some (2, .one) ∧ tfo Tryz.prog 139 3 = some (3, .one) ∧ tfo Tryz.prog 153 0 = some (0, .one) ∧ tfo Tryz.prog 153 1 = some (1, .one) ∧ tfo Tryz.prog 153 2 = some (2, .one) ∧ tfo Tryz.prog 153 3 = some (3, .one) ∧ tfo Tryz.prog 160 0 = some (0, .one) ∧ tfo Tryz.prog 160 1 = some (1, .one) ∧ tfo Tryz.prog 160 2 = some (2, .one) ∧ tfo Tryz.prog 166 0 = some (0, .one) ∧ tfo Tryz.prog 166 1 = some (1, .one) ∧ tfo Tryz.prog 166 2 = some (2, .one) ∧ tfo Tryz.prog 166 3 = some (3, .one) ∧ tfo Tryz.prog 166 4 = some (4, .one) ∧ tfo Tryz.prog 169 0 = some (0, .one) ∧ tfo Tryz.prog 169 1 = some (1, .one) ∧ tfo Tryz.prog 171 0 = some (0, .one) ∧ tfo Tryz.prog 171 1 = some (1, .one) ∧ tfo Tryz.prog 178 0 = some (0, .one) ∧ tfo Tryz.prog 178 1 = some (1, .one) ∧ tfo Tryz.prog 180 0 = some (0, .one) ∧ tfo Tryz.prog 180 1 = some (1, .one) ∧ tfo Tryz.prog 180 2 = some (2, .one) ∧ tfo Tryz.prog 182 0 = some (0, .one) ∧ tfo Tryz.prog 182 1 = some (1, .one) ∧ tfo Tryz.prog 182 2 = some (2, .one) ∧ tfo Tryz.prog 200 0 = some (0, .one) ∧ tfo Tryz.prog 200 1 = some (1, .one) ∧ tfo Tryz.prog 200 2 = some (2, .one) ∧ tfo Tryz.prog 203 0 = some (0, .one) ∧ tfo Tryz.prog 203 1 = some (1, .one) ∧ tfo Tryz.prog 203 2 = some (2, .one) ∧ tfo Tryz.prog 203 3 = some (3, .one) ∧ tfo Tryz.prog 203 4 = some (4, .one) ∧ tfo Tryz.prog 205 0 = some (0, .one) ∧ tfo Tryz.prog 205 1 = some (1, .one) ∧ tfo Tryz.prog 205 2 = some (2, .one) ∧ tfo Tryz.prog 205 3 = some (3, .one) ∧ tfo Tryz.prog 207 0 = some (0, .one) ∧ tfo Tryz.prog 207 1 = some (1, .one) ∧ tfo Tryz.prog 207 2 = some (2, .one) ∧ tfo Tryz.prog 207 3 = some (3, .one) ∧ tfo Tryz.prog 207 4 = some (4, .one) ∧ tfo Tryz.prog 209 0 = some (0, .one) ∧ tfo Tryz.prog 209 1 = some (1, .one) ∧ tfo Tryz.prog 209 2 = some (2, .one) ∧ tfo Tryz.prog 209 3 = some (3, .one) ∧ tfo Tryz.prog 32 0 = some (0, .one) ∧ tfo Tryz.prog 32 1 = some (1, .one) ∧ tfo Tryz.prog 32 2 = some (2, .one) ∧ tfo Tryz.prog 32 3 = some (3, .one) ∧ tfo Tryz.prog 32 4 = some (4, .one) ∧ tfo Tryz.prog 32 5 = some (5, .one) ∧ tfo Tryz.prog 32 6 = some (6, .one) ∧ tfo Tryz.prog 32 7 = some (7, .one) ∧ tfo Tryz.prog 32 8 = some (8, .one) ∧ tfo Tryz.prog 48 0 = some (0, .one) ∧ tfo Tryz.prog 48 1 = some (1, .one) ∧ tfo Tryz.prog 48 2 = some (2, .one) ∧ tfo Tryz.prog 48 3 = some (3, .one) ∧ tfo Tryz.prog 48 4 = some (4, .one) ∧ tfo Tryz.prog 48 5 = some (5, .one) ∧ tfo Tryz.prog 48 6 = some (6, .one) ∧ tfo Tryz.prog 48 7 = some (7, .one) ∧ tfo Tryz.prog 48 8 = some (8, .one) ∧ tfo Tryz.prog 58 0 = some (0, .one) ∧ tfo Tryz.prog 58 1 = some (1, .one) ∧ tfo Tryz.prog 58 2 = some (2, .one) ∧ tfo Tryz.prog 58 3 = some (3, .one) ∧ tfo Tryz.prog 58 4 = some (4, .one) ∧ tfo Tryz.prog 60 0 = some (0, .agg 5) ∧ tfo Tryz.prog 60 1 = some (5, .one) ∧ tfo Tryz.prog 60 2 = some (6, .one) ∧ tfo Tryz.prog 60 3 = some (7, .one) ∧ tfo Tryz.prog 64 0 = some (0, .one) ∧ tfo Tryz.prog 64 1 = some (1, .one) ∧ tfo Tryz.prog 64 2 = some (2, .one) ∧ tfo Tryz.prog 64 3 = some (3, .one) ∧ tfo Tryz.prog 64 4 = some (4, .one) ∧ tfo Tryz.prog 66 0 = some (0, .agg 5) ∧ tfo Tryz.prog 66 1 = some (5, .one) ∧ tfo Tryz.prog 66 2 = some (6, .one) ∧ tfo Tryz.prog 66 3 = some (7, .one) ∧ tfo Tryz.prog 82 0 = some (0, .one) ∧ tfo Tryz.prog 82 1 = some (1, .agg 8) ∧ tfo Tryz.prog 82 2 = some (9, .one) ∧ tfo Tryz.prog 82 3 = some (10, .one) ∧ tfo Tryz.prog 82 4 = some (11, .one) ∧ tfo Tryz.prog 82 5 = some (12, .one) ∧ tfo Tryz.prog 82 6 = some (13, .one) ∧ tfo Tryz.prog 86 0 = some (0, .one) ∧ tfo Tryz.prog 86 1 = some (1, .agg 8) ∧ tfo Tryz.prog 86 2 = some (9, .one) ∧ tfo Tryz.prog 86 3 = some (10, .one) ∧ tfo Tryz.prog 86 4 = some (11, .one) ∧ tfo Tryz.prog 86 5 = some (12, .one) ∧ tfo Tryz.prog 86 6 = some (13, .one) ∧ ti Tryz.prog 175 = .sl 178 2 ∧ ti Tryz.prog 215 = .sl 4 1 ∧ ti Tryz.prog 22 = .sl 105 3 ∧ ti Tryz.prog 237 = .sl 3 1 ∧ ti Tryz.prog 24 = .sl 66 8 ∧ ti Tryz.prog 25 = .sl 160 3 ∧ ti Tryz.prog 26 = .sl 103 3 ∧ ti Tryz.prog 27 = .sl 136 5 ∧ ti Tryz.prog 28 = .sl 139 4 ∧ ti Tryz.prog 29 = .sl 166 5 ∧ ti Tryz.prog 30 = .sl 153 4 ∧ ti Tryz.prog 41 = .sl 60 8 ∧ ti Tryz.prog 42 = .sl 200 3 ∧ ti Tryz.prog 43 = .sl 203 5 ∧ ti Tryz.prog 44 = .sl 205 4 ∧ ti Tryz.prog 45 = .sl 207 5 ∧ ti Tryz.prog 46 = .sl 209 4 ∧ ti Tryz.prog 61 = .sl 171 2 ∧ ti Tryz.prog 68 = .sl 169 2 ∧ ti Tryz.prog 73 = .sl 182 3 ∧ ti Tryz.prog 76 = .sl 180 3 ∧ tk Tryz.prog 103 = .agg 3 ∧ tk Tryz.prog 105 = .agg 3 ∧ tk Tryz.prog 136 = .agg 5 ∧ tk Tryz.prog 139 = .agg 4 ∧ tk Tryz.prog 153 = .agg 4 ∧ tk Tryz.prog 160 = .agg 3 ∧ tk Tryz.prog 166 = .agg 5 ∧ tk Tryz.prog 169 = .agg 2 ∧ tk Tryz.prog 171 = .agg 2 ∧ tk Tryz.prog 180 = .agg 3 ∧ tk Tryz.prog 182 = .agg 3 ∧ tk Tryz.prog 200 = .agg 3 ∧ tk Tryz.prog 203 = .agg 5 ∧ tk Tryz.prog 205 = .agg 4 ∧ tk Tryz.prog 207 = .agg 5 ∧ tk Tryz.prog 209 = .agg 4 ∧ tk Tryz.prog 22 = .one ∧ tk Tryz.prog 24 = .one ∧ tk Tryz.prog 25 = .one ∧ tk Tryz.prog 26 = .one ∧ tk Tryz.prog 27 = .one ∧ tk Tryz.prog 28 = .one ∧ tk Tryz.prog 29 = .one ∧ tk Tryz.prog 3 = .one ∧ tk Tryz.prog 30 = .one ∧ tk Tryz.prog 32 = .agg 9 ∧ tk Tryz.prog 4 = .one ∧ tk Tryz.prog 41 = .one ∧ tk Tryz.prog 42 = .one ∧ tk Tryz.prog 43 = .one ∧ tk Tryz.prog 44 = .one ∧ tk Tryz.prog 45 = .one ∧ tk Tryz.prog 46 = .one ∧ tk Tryz.prog 48 = .agg 9 ∧ tk Tryz.prog 58 = .agg 5 ∧ tk Tryz.prog 60 = .agg 8 ∧ tk Tryz.prog 61 = .one ∧ tk Tryz.prog 64 = .agg 5 ∧ tk Tryz.prog 66 = .agg 8 ∧ tk Tryz.prog 68 = .one ∧ tk Tryz.prog 73 = .one ∧ tk Tryz.prog 76 = .one ∧ tk Tryz.prog 82 = .agg 14 ∧ tk Tryz.prog 86 = .agg 14 ∧ QbC Tryz.prog 237 = true ∧ QbC Tryz.prog 24 = true ∧ QbC Tryz.prog 25 = true ∧ QbC Tryz.prog 26 = true ∧ QbC Tryz.prog 27 = true ∧ QbC Tryz.prog 28 = true ∧ QbC Tryz.prog 29 = true ∧ QbC Tryz.prog 30 = true ∧ QbC Tryz.prog 68 = true ∧ QbC Tryz.prog 76 = true ∧ tse Tryz.prog 175 = some (178, 2, [.i .i64 0, .i .i64 0]) ∧ tse Tryz.prog 215 = some (4, 1, [.b false]) ∧ tse Tryz.prog 237 = some (3, 1, [.i .i64 0]) ∧ tse Tryz.prog 24 = some (66, 8, [.i .i64 0, .i .i64 0, .i .i64 0, .i .i64 0, .i .i64 0, .i .i64 0, .i .i64 0, .i .i64 0]) ∧ tse Tryz.prog 25 = some (160, 3, [.i .i64 0, .nil, .i .i64 0]) ∧ tse Tryz.prog 26 = some (103, 3, [.i .i64 0, .i .i64 0, .i .i64 0]) ∧ tse Tryz.prog 27 = some (136, 5, [.i .i64 0, .i .i64 0, .i .i64 0, .i .i64 0, .i .i64 0]) ∧ tse Tryz.prog 28 = some (139, 4, [.i .i64 0, .i .i64 0, .i .i64 0, .i .i64 0]) ∧ tse Tryz.prog 29 = some (166, 5, [.i .i64 0, .i .i64 0, .i .i64 0, .i .i64 0, .i .i64 0]) ∧ tse Tryz.prog 30 = some (153, 4, [.i .i64 0, .i .i64 0, .i .i64 0, .i .i64 0]) ∧ tse Tryz.prog 68 = some (169, 2, [.i .i64 0, .i .i64 0]) ∧ tse Tryz.prog 76 = some (180, 3, [.i .i64 0, .i .i64 0, .i .i64 0]) ∧ tzc Tryz.prog 103 = some [.i .i64 0, .i .i64 0, .i .i64 0] ∧ tzc Tryz.prog 136 = some [.i .i64 0, .i .i64 0, .i .i64 0, .i .i64 0, .i .i64 0] ∧ tzc Tryz.prog 139 = some [.i .i64 0, .i .i64 0, .i .i64 0, .i .i64 0] ∧ tzc Tryz.prog 153 = some [.i .i64 0, .i .i64 0, .i .i64 0, .i .i64 0] ∧ tzc Tryz.prog 160 = some [.i .i64 0, .nil, .i .i64 0] ∧ tzc Tryz.prog 166 = some [.i .i64 0, .i .i64 0, .i .i64 0, .i .i64 0, .i .i64 0] ∧ tzc Tryz.prog 169 = some [.i .i64 0, .i .i64 0] ∧ tzc Tryz.prog 180 = some [.i .i64 0, .i .i64 0, .i .i64 0] ∧ tzc Tryz.prog 32 = some [.i .i64 0, .nil, .nil, .nil, .nil, .nil, .nil, .nil, .i .i64 0] ∧ tzc Tryz.prog 64 = some [.i .i64 0, .i .i64 0, .i .i64 0, .i .i64 0, .i .i64 0] ∧ tzc Tryz.prog 66 = some [.i .i64 0, .i .i64 0, .i .i64 0, .i .i64 0, .i .i64 0, .i .i64 0, .i .i64 0, .i .i64 0] ∧ tzc Tryz.prog 86 = some [.i .i64 0, .i .i64 0, .i .i64 0, .i .i64 0, .i .i64 0, .i .i64 0, .i .i64 0, .i .i64 0, .i .i64 0, .nil, .i .i64 0, .i .i64 0, .i .i64 0, .nil] := by and_intros <;> kernel_rfl
def mt (g : Nat) (K : KS) (args : List AV) : Option AV := mtI [(115, (4, 32)), (201, (5, 40)), (218, (8, 64)), (219, (3, 40))] g K args
def n11 : Ann := { ot := [(8, .one 0 (.one 2 (.alt (.one 1 (.alt (.one 3 (.alt (.one 4 (.one 5 (.one 6 (.one 7 (.one 8 (.one 9 (.one 10 (.done)))))))) (.one 8 (.one 4 (.one 5 (.one 6 (.one 7 (.one 9 (.one 10 (.done)))))))))) (.one 8 (.one 3 (.one 4 (.one 5 (.one 6 (.one 7 (.one 9 (.one 10 (.done))))))))))) (.one 8 (.one 1 (.one 3 (.one 4 (.one 5 (.one 6 (.one 7 (.one 9 (.one 10 (.done))))))))))))), (31, .one 0 (.one 2 (.alt (.one 1 (.alt (.one 3 (.alt (.one 4 (.one 5 (.one 6 (.one 7 (.one 8 (.one 9 (.one 10 (.done)))))))) (.one 8 (.one 4 (.one 5 (.one 6 (.one 7 (.one 9 (.one 10 (.done)))))))))) (.one 8 (.one 3 (.one 4 (.one 5 (.one 6 (.one 7 (.one 9 (.one 10 (.done))))))))))) (.one 8 (.one 1 (.one 3 (.one 4 (.one 5 (.one 6 (.one 7 (.one 9 (.one 10 (.done)))))))))))))], ac := [(19, 0), (20, 0), (24, 0)], jn := [(12, (53, 45, 53)), (21, (82, 70, 82)), (32, (110, 102, 110))] }
def n13 : Ann := {}
def n15 : Ann := { lp := [(3, ⟨[0, 3, 4], [.s 3 3], [3], [.s 3 3]⟩)], sh := [.z 3] }
def n17 : Ann := {}
def n18 : Ann := { lp := [(4, ⟨[0, 1, 5], [], [], []⟩)], rt := ⟨[4], [], [], []⟩ }
def n19 : Ann := { ak := [0], lp := [(2, ⟨[0, 1, 5], [.s 0 3], [0, 1], [.s 0 3]⟩)] }
def n20 : Ann := { ak := [0, 1, 2, 3, 4, 5, 6], ac := [(1, 0), (2, 0), (3, 0), (4, 0), (5, 0), (6, 0), (7, 0)] }
def n21 : Ann := {}
def n22 : Ann := {}
def n23 : Ann := { av := [(5, [92])], jn := [(2, (17, 9, 17))], sh := [.a [0, 8, 3, 3, 5, 4, 5, 4, 0], .n] }
def n24 : Ann := { sh := [.a [0, 8, 3, 3, 5, 4, 5, 4, 0]] }
def n25 : Ann := { av := [(3, [100])], sh := [.a [0, 8, 3, 3, 5, 4, 5, 4, 0], .n] }
def n26 : Ann := { av := [(13, [92])], jn := [(3, (34, 19, 34))], sh := [.a [0, 8, 3, 3, 5, 4, 5, 4, 0], .n] }
def n27 : Ann := { av := [(12, [100])], jn := [(3, (33, 18, 33))], sh := [.a [0, 8, 3, 3, 5, 4, 5, 4, 0], .n] }
def n28 : Ann := { ot := [(7, .one 0 (.one 1 (.one 2 (.one 3 (.one 4 (.one 6 (.one 7 (.one 12 (.alt (.one 5 (.alt (.one 8 (.alt (.one 9 (.one 10 (.one 11 (.one 13 (.one 14 (.one 15 (.one 16 (.done)))))))) (.one 10 (.alt (.one 9 (.one 11 (.one 13 (.one 14 (.one 15 (.one 16 (.done))))))) (.one 11 (.one 13 (.one 9 (.one 14 (.one 15 (.one 16 (.done))))))))))) (.one 10 (.alt (.one 8 (.alt (.one 9 (.one 11 (.one 13 (.one 14 (.one 15 (.one 16 (.done))))))) (.one 11 (.one 13 (.one 9 (.one 14 (.one 15 (.one 16 (.done))))))))) (.one 11 (.one 13 (.one 8 (.one 9 (.one 14 (.one 15 (.one 16 (.done)))))))))))) (.alt (.one 8 (.alt (.one 5 (.alt (.one 9 (.one 10 (.one 11 (.one 13 (.one 14 (.one 15 (.one 16 (.done)))))))) (.one 10 (.alt (.one 9 (.one 11 (.one 13 (.one 14 (.one 15 (.one 16 (.done))))))) (.one 11 (.one 13 (.one 9 (.one 14 (.one 15 (.one 16 (.done))))))))))) (.one 10 (.alt (.one 5 (.alt (.one 9 (.one 11 (.one 13 (.one 14 (.one 15 (.one 16 (.done))))))) (.one 11 (.one 13 (.one 9 (.one 14 (.one 15 (.one 16 (.done))))))))) (.one 11 (.one 13 (.one 5 (.one 9 (.one 14 (.one 15 (.one 16 (.done)))))))))))) (.one 10 (.alt (.one 5 (.alt (.one 8 (.alt (.one 9 (.one 11 (.one 13 (.one 14 (.one 15 (.one 16 (.done))))))) (.one 11 (.one 13 (.one 9 (.one 14 (.one 15 (.one 16 (.done))))))))) (.one 11 (.one 13 (.one 8 (.one 9 (.one 14 (.one 15 (.one 16 (.done)))))))))) (.alt (.one 8 (.alt (.one 5 (.alt (.one 9 (.one 11 (.one 13 (.one 14 (.one 15 (.one 16 (.done))))))) (.one 11 (.one 13 (.one 9 (.one 14 (.one 15 (.one 16 (.done))))))))) (.one 11 (.one 13 (.one 5 (.one 9 (.one 14 (.one 15 (.one 16 (.done)))))))))) (.one 11 (.one 13 (.alt (.one 5 (.one 8 (.one 9 (.one 14 (.one 15 (.one 16 (.done))))))) (.one 8 (.one 5 (.one 9 (.one 14 (.one 15 (.one 16 (.done)))))))))))))))))))))))], eb := [(7, [47])], av := [(8, [92])], jn := [(5, (44, 30, 44))], lp := [(5, ⟨[1, 3, 4, 8, 10, 12, 13], [.s 4 0, .s 8 0, .s 10 0, .c 2 1 8, .c 2 2 3, .c 2 3 3, .c 2 4 5, .c 2 5 4, .c 2 6 5, .c 2 7 4], [1, 3, 4, 8, 10, 12, 13], [.s 4 0, .s 8 0, .s 10 0, .c 2 1 8, .c 2 2 3, .c 2 3 3, .c 2 4 5, .c 2 5 4, .c 2 6 5, .c 2 7 4]⟩)], sh := [.a [0, 8, 3, 3, 5, 4, 5, 4, 0], .n] }
def n29 : Ann := { ot := [(5, .one 0 (.one 1 (.one 2 (.one 3 (.one 4 (.one 6 (.one 7 (.alt (.one 5 (.one 8 (.one 9 (.one 10 (.one 11 (.done)))))) (.one 8 (.one 5 (.one 9 (.one 10 (.one 11 (.done))))))))))))))], av := [(5, [115]), (6, [100])], jn := [(3, (40, 27, 40))], sh := [.a [0, 8, 3, 3, 5, 4, 5, 4, 0], .n] }
def n30 : Ann := { ot := [(9, .one 0 (.one 1 (.one 2 (.one 3 (.one 4 (.one 5 (.one 6 (.one 7 (.one 8 (.one 9 (.one 10 (.one 11 (.one 12 (.one 13 (.one 14 (.one 15 (.one 16 (.one 17 (.alt (.one 18 (.alt (.one 19 (.one 20 (.one 21 (.one 22 (.one 23 (.one 24 (.one 25 (.done)))))))) (.one 23 (.one 19 (.one 20 (.one 21 (.one 22 (.one 24 (.one 25 (.done)))))))))) (.one 23 (.one 18 (.one 19 (.one 20 (.one 21 (.one 22 (.one 24 (.one 25 (.done))))))))))))))))))))))))))))], av := [(9, [120]), (10, [92])], jn := [(3, (33, 23, 33))], sh := [.a [0, 8, 3, 3, 5, 4, 5, 4, 0], .n] }
def n31 : Ann := { av := [(12, [100])], jn := [(3, (30, 25, 30))], sh := [.a [0, 8, 3, 3, 5, 4, 5, 4, 0], .n] }
def n32 : Ann := { ot := [(6, .one 0 (.one 1 (.one 2 (.one 3 (.one 4 (.one 5 (.one 6 (.one 7 (.alt (.one 8 (.one 9 (.one 10 (.one 11 (.one 12 (.one 13 (.one 14 (.done)))))))) (.one 12 (.one 8 (.one 9 (.one 10 (.one 11 (.one 13 (.one 14 (.done)))))))))))))))))], av := [(7, [92]), (11, [92])], jn := [(2, (21, 15, 21))], sh := [.a [0, 8, 3, 3, 5, 4, 5, 4, 0], .n] }
def n33 : Ann := { av := [(11, [100])], sh := [.a [0, 8, 3, 3, 5, 4, 5, 4, 0], .n] }
def n34 : Ann := {}
def n35 : Ann := { av := [(10, [92])], sh := [.a [0, 8, 3, 3, 5, 4, 5, 4, 0], .n] }
def n36 : Ann := {}
def n37 : Ann := { lp := [(3, ⟨[0, 3, 4], [.s 3 2], [3], [.s 3 2]⟩)], sh := [.z 2] }
def n38 : Ann := { av := [(6, [100])], sh := [.a [0, 8, 3, 3, 5, 4, 5, 4, 0], .n] }
def n39 : Ann := { lp := [(4, ⟨[0, 1, 5], [], [], []⟩)], rt := ⟨[4], [], [], []⟩ }
def n40 : Ann := { ak := [0], lp := [(2, ⟨[0, 1, 5], [.s 0 2], [0, 1], [.s 0 2]⟩)] }
def n41 : Ann := {}
def n42 : Ann := { ot := [(9, .one 0 (.one 1 (.one 2 (.one 3 (.one 4 (.one 5 (.one 6 (.one 7 (.one 8 (.alt (.one 9 (.one 10 (.one 11 (.one 12 (.one 13 (.one 14 (.one 15 (.done)))))))) (.one 13 (.one 9 (.one 10 (.one 11 (.one 12 (.one 14 (.one 15 (.done))))))))))))))))))], av := [(6, [120]), (9, [120]), (10, [92]), (11, [92])], jn := [(3, (50, 27, 50))], sh := [.a [0, 8, 3, 3, 5, 4, 5, 4, 0], .n] }
def n43 : Ann := { lp := [(3, ⟨[0, 3, 4], [.s 3 3], [3], [.s 3 3]⟩)], sh := [.z 3] }
def n44 : Ann := { av := [(11, [100])], jn := [(3, (42, 28, 42)), (9, (80, 68, 80))], sh := [.a [0, 8, 3, 3, 5, 4, 5, 4, 0], .n] }
def n45 : Ann := { lp := [(4, ⟨[0, 1, 5], [], [], []⟩)], rt := ⟨[4], [], [], []⟩ }
def n46 : Ann := { ak := [0], lp := [(2, ⟨[0, 1, 5], [.s 0 3], [0, 1], [.s 0 3]⟩)] }
def n47 : Ann := {}
def n48 : Ann := { sh := [.a [0, 8, 3, 3, 5, 4, 5, 4, 0], .n] }
def n49 : Ann := { sh := [.a [0, 0, 0, 0, 0, 0, 0, 0, 0, 2, 0, 0, 0, 3]] }
def n50 : Ann := { sh := [.a [0, 8, 3, 3, 5, 4, 5, 4, 0], .n] }
def n51 : Ann := {}
def n52 : Ann := { ak := [0, 1], ac := [(1, 0), (2, 0)] }
def n59 : Ann := { ord := [(1, [0, 1, 2, 3, 4, 6, 7, 9, 10, 11, 13, 14, 15, 17, 18, 19, 21, 22, 23, 25, 26, 27, 29, 30, 5, 8, 12, 16, 20, 24, 28, 31, 32])], eb := [(1, [5, 12, 16, 20, 24, 28])], sh := [.a [0, 8, 3, 3, 5, 4, 5, 4, 0]] }
def n60 : Ann := { jn := [(1, (48, 3, 48)), (3, (86, 49, 86)), (5, (2, 87, 93))] }
def n62 : Ann := {}
def n63 : Ann := { sh := [.z 3] }
def n64 : Ann := { ord := [(1, [0, 1, 2, 3, 4, 5, 6, 7, 8, 9, 10, 11, 12, 13, 14, 15, 16, 17, 18, 19, 20, 21, 22, 23, 24, 25, 26, 27, 28, 29, 30, 31, 32, 33, 34, 35, 36, 37, 38, 39, 40, 41, 42, 44, 45, 43, 46, 47, 48, 49, 50, 51, 52, 53])], jn := [(1, (2, 3, 56))] }
def n65 : Ann := { lp := [(4, ⟨[0, 1, 5], [], [], []⟩)], rt := ⟨[4], [], [], []⟩ }
def n66 : Ann := { lp := [(4, ⟨[0, 1, 5], [], [], []⟩)], rt := ⟨[4], [], [], []⟩ }
def n67 : Ann := { lp := [(4, ⟨[0, 1, 5], [], [], []⟩)], rt := ⟨[4], [], [], []⟩ }
def n68 : Ann := { lp := [(4, ⟨[0, 1, 5], [], [], []⟩)], rt := ⟨[4], [], [], []⟩ }
def n69 : Ann := { lp := [(4, ⟨[0, 1, 5], [], [], []⟩)], rt := ⟨[4], [], [], []⟩ }
def n70 : Ann := { lp := [(4, ⟨[0, 1, 5], [], [], []⟩)], rt := ⟨[4], [], [], []⟩ }
def n71 : Ann := {}
def n72 : Ann := { ak := [0], lp := [(2, ⟨[0, 1, 5], [.s 0 8], [0, 1], [.s 0 8]⟩)] }
def n73 : Ann := { an := [(6, [0, 0, 0, 0])], ak := [0], lp := [(2, ⟨[0, 1, 5], [.s 0 3], [0, 1], [.s 0 3]⟩)] }
def n74 : Ann := { ak := [0], lp := [(2, ⟨[0, 1, 5], [.s 0 5], [0, 1], [.s 0 5]⟩)] }
def n75 : Ann := { ak := [0], lp := [(2, ⟨[0, 1, 5], [.s 0 4], [0, 1], [.s 0 4]⟩)] }
def n76 : Ann := { ak := [0], lp := [(2, ⟨[0, 1, 5], [.s 0 5], [0, 1], [.s 0 5]⟩)] }
def n77 : Ann := { ak := [0], lp := [(2, ⟨[0, 1, 5], [.s 0 4], [0, 1], [.s 0 4]⟩)] }
def n78 : Ann := { lp := [(2, ⟨[0, 1, 5], [], [1], []⟩)], rt := ⟨[4], [], [], []⟩ }
def n79 : Ann := { lp := [(2, ⟨[0, 1, 5], [], [1], []⟩)], rt := ⟨[4], [], [], []⟩ }
def n80 : Ann := { lp := [(2, ⟨[0, 1, 5], [], [1], []⟩)], rt := ⟨[4], [], [], []⟩ }
def n81 : Ann := { lp := [(2, ⟨[0, 1, 5], [], [1], []⟩)], rt := ⟨[4], [], [], []⟩ }
def n82 : Ann := { lp := [(2, ⟨[0, 1, 5], [], [1], []⟩)], rt := ⟨[4], [], [], []⟩ }
def n83 : Ann := { lp := [(2, ⟨[0, 1, 5], [], [1], []⟩)], rt := ⟨[4], [], [], []⟩ }
def n84 : Ann := { lp := [(2, ⟨[0, 1, 5], [], [1], []⟩)], rt := ⟨[4], [], [], []⟩ }
def n85 : Ann := {}
def n86 : Ann := { lp := [(5, ⟨[0, 1, 5], [], [1], []⟩)], rt := ⟨[4], [], [], []⟩ }
def n87 : Ann := {}
def n88 : Ann := {}
def n89 : Ann := {}
def n90 : Ann := {}
def n91 : Ann := { jn := [(1, (6, 7, 15))] }
def n92 : Ann := { jn := [(1, (19, 8, 19))], sh := [.a [0, 8, 3, 3, 5, 4, 5, 4, 0], .n] }
def n93 : Ann := { lp := [(3, ⟨[0, 3, 4], [.s 3 8], [3], [.s 3 8]⟩)], sh := [.z 8] }
def n94 : Ann := { lp := [(3, ⟨[0, 3, 4], [.s 3 3], [3], [.s 3 3]⟩)], sh := [.z 3] }
def n95 : Ann := { lp := [(3, ⟨[0, 3, 4], [.s 3 5], [3], [.s 3 5]⟩)], sh := [.z 5] }
def n96 : Ann := { lp := [(3, ⟨[0, 3, 4], [.s 3 4], [3], [.s 3 4]⟩)], sh := [.z 4] }
def n97 : Ann := { lp := [(3, ⟨[0, 3, 4], [.s 3 5], [3], [.s 3 5]⟩)], sh := [.z 5] }
def n98 : Ann := { lp := [(3, ⟨[0, 3, 4], [.s 3 4], [3], [.s 3 4]⟩)], sh := [.z 4] }
def n99 : Ann := { ord := [(1, [0, 1, 3, 4, 6, 7, 9, 10, 2, 12, 5, 8, 11, 13, 14, 15, 16, 17, 18, 19]), (2, [0, 1, 3, 4, 6, 7, 2, 9, 5, 8, 10, 11, 12, 13, 14])], sh := [.a [0, 8, 3, 3, 5, 4, 5, 4, 0]] }
def Qvt : Ann := { jn := [(1, (19, 8, 19))], sh := [.a [0, 8, 3, 3, 5, 4, 5, 4, 0], .n] }
def QCW : Ann := { jn := [(1, (6, 7, 15))] }
def Qyy : Ann := { lp := [(2, ⟨[0, 1, 5], [], [], []⟩)], rt := ⟨[4], [], [], []⟩ }
def QBL : Ann := { sh := [.z 2] }
def QAZ : Ann := {}
def QBS : Ann := { jn := [(1, (5, 6, 19)), (3, (19, 20, 30))] }
def QBv : Ann := {}
def QBc : Ann := { sh := [.z 2] }
def QDa : Ann := {}
def QBX : Ann := { jn := [(1, (5, 6, 19)), (3, (19, 20, 30))] }
def QCc : Ann := { jn := [(3, (22, 16, 22)), (6, (47, 29, 47))], sh := [.z 5, .n] }
def QyK : Ann := { ot := [(9, .one 1 (.one 2 (.one 3 (.one 8 (.one 9 (.one 10 (.alt (.one 0 (.alt (.one 4 (.one 5 (.one 6 (.one 7 (.one 11 (.one 12 (.done))))))) (.one 5 (.alt (.one 4 (.one 6 (.one 7 (.one 11 (.one 12 (.done)))))) (.one 6 (.one 4 (.one 7 (.one 11 (.one 12 (.done)))))))))) (.one 5 (.alt (.one 0 (.alt (.one 4 (.one 6 (.one 7 (.one 11 (.one 12 (.done)))))) (.one 6 (.one 4 (.one 7 (.one 11 (.one 12 (.done)))))))) (.one 6 (.one 0 (.one 4 (.one 7 (.one 11 (.one 12 (.done))))))))))))))))], jn := [(6, (7, 19, 40)), (10, (67, 62, 67))], lp := [(4, ⟨[0, 3, 6, 7, 8], [.s 3 0], [0, 3, 6, 7], [.s 3 0]⟩)], sh := [.z 5, .n] }
def Qyf : Ann := { jn := [(4, (22, 12, 22))], lp := [(2, ⟨[0, 1, 5], [], [], []⟩)], rt := ⟨[4], [], [], []⟩ }
def Qzx : Ann := { av := [(7, [201])], jn := [(2, (24, 10, 24)), (5, (39, 26, 39))], lp := [(5, ⟨[0, 3, 6, 7], [.s 3 0, .s 6 5], [0, 3, 6, 7], [.s 3 0, .s 6 5]⟩)], sh := [.z 5, .n] }
def QC8 : Ann := {}
def QyB : Ann := { jn := [(5, (44, 13, 44))], lp := [(3, ⟨[0, 1, 5, 6], [], [0, 5], []⟩)] }
def QzN : Ann := { lp := [(2, ⟨[0, 1, 5], [], [], []⟩)], rt := ⟨[4], [], [], []⟩ }
def QDO : Ann := { sh := [.a [0, 8, 3, 3, 5, 4, 5, 4, 0], .n] }
def QAI : Ann := { jn := [(3, (24, 18, 24)), (6, (11, 31, 49)), (8, (60, 54, 60))], sh := [.z 5, .n] }
def QAr : Ann := { sh := [.a [0, 8, 3, 3, 5, 4, 5, 4, 0], .n] }
def Qz6 : Ann := { jn := [(1, (12, 5, 12))] }
def QDL : Ann := { jn := [(2, (24, 11, 24))] }
def Qxl : Ann := { jn := [(6, (35, 16, 35))], lp := [(4, ⟨[1, 5, 6, 10, 11, 12], [.s 5 0], [5], [.s 5 0]⟩)] }
def QDu : Ann := { sh := [.a [0, 8, 3, 3, 5, 4, 5, 4, 0], .n] }
def QAn : Ann := { jn := [(1, (12, 5, 12))] }
def QDf : Ann := { ot := [(1, .one 0 (.one 2 (.alt (.one 1 (.one 3 (.one 4 (.one 5 (.done))))) (.one 3 (.one 1 (.one 4 (.one 5 (.done))))))))], sh := [.z 4, .n] }
def QzM : Ann := { jn := [(6, (36, 20, 36)), (10, (42, 43, 53))], lp := [(4, ⟨[1, 2, 3, 7], [.s 3 0], [2, 3], [.s 3 0]⟩)], rt := ⟨[6], [], [], []⟩ }
def QB9 : Ann := { jn := [(4, (16, 17, 26)), (6, (26, 27, 35)), (8, (35, 36, 44))] }
def QzQ : Ann := { ot := [(4, .one 1 (.one 2 (.one 3 (.one 8 (.one 9 (.one 10 (.alt (.one 0 (.alt (.one 4 (.one 5 (.one 6 (.one 7 (.one 11 (.one 12 (.done))))))) (.one 5 (.alt (.one 4 (.one 6 (.one 7 (.one 11 (.one 12 (.done)))))) (.one 6 (.one 4 (.one 7 (.one 11 (.one 12 (.done)))))))))) (.one 5 (.alt (.one 0 (.alt (.one 4 (.one 6 (.one 7 (.one 11 (.one 12 (.done)))))) (.one 6 (.one 4 (.one 7 (.one 11 (.one 12 (.done)))))))) (.one 6 (.one 0 (.one 4 (.one 7 (.one 11 (.one 12 (.done))))))))))))))))], jn := [(2, (23, 8, 23))], lp := [(2, ⟨[0, 3, 6], [.s 3 0], [0, 3, 6], [.s 3 0]⟩)], sh := [.z 8, .n] }
def Qxb : Ann := { ot := [(4, .one 0 (.one 1 (.one 2 (.one 4 (.one 8 (.one 9 (.one 10 (.alt (.one 3 (.one 5 (.one 6 (.one 7 (.one 11 (.one 12 (.one 13 (.done)))))))) (.one 5 (.one 3 (.one 6 (.one 7 (.one 11 (.one 12 (.one 13 (.done))))))))))))))))], jn := [(2, (21, 8, 21))], lp := [(2, ⟨[0, 3, 6], [.s 3 0], [0, 3, 6], [.s 3 0]⟩)], sh := [.z 3, .n] }
def QwK : Ann := { jn := [(3, (34, 16, 34))], lp := [(6, ⟨[3, 6, 7, 8], [.s 3 0, .s 6 3], [6], [.s 6 3]⟩)], sh := [.z 3, .n] }
def QzY : Ann := { ot := [(5, .one 1 (.alt (.one 0 (.alt (.one 2 (.one 3 (.one 4 (.one 5 (.one 6 (.done)))))) (.one 3 (.alt (.one 2 (.one 4 (.one 5 (.one 6 (.done))))) (.one 4 (.one 2 (.one 5 (.one 6 (.done))))))))) (.one 3 (.alt (.one 0 (.alt (.one 2 (.one 4 (.one 5 (.one 6 (.done))))) (.one 4 (.one 2 (.one 5 (.one 6 (.done))))))) (.one 4 (.one 0 (.one 2 (.one 5 (.one 6 (.done))))))))))], sh := [.z 5, .n] }
def QCC : Ann := {}
def QBz : Ann := {}
def Qw7 : Ann := { av := [(7, [218])], jn := [(5, (32, 17, 32))], lp := [(5, ⟨[0, 3, 6, 7], [.s 3 0, .s 6 8], [0, 3, 6, 7], [.s 3 0, .s 6 8]⟩)], sh := [.z 8, .n] }
def QwL : Ann := { av := [(8, [219])], jn := [(5, (29, 16, 29))], lp := [(5, ⟨[0, 3, 6, 7], [.s 3 0, .s 6 3], [0, 3, 6, 7], [.s 3 0, .s 6 3]⟩)], sh := [.z 3, .n] }
def Qz7 : Ann := { jn := [(3, (32, 14, 32))], sh := [.z 3, .n] }
def QDp : Ann := { ot := [(5, .one 0 (.one 2 (.alt (.one 1 (.one 3 (.one 4 (.one 5 (.done))))) (.one 3 (.one 1 (.one 4 (.one 5 (.done))))))))], sh := [.z 5, .n] }
def QCY : Ann := {}
def QAJ : Ann := { jn := [(1, (12, 5, 12))] }
def Qz5 : Ann := { sh := [.z 2] }
def QBE : Ann := {}
def QAC : Ann := { jn := [(1, (12, 5, 12))] }
def QCk : Ann := { sh := [.z 2] }
def QB2 : Ann := {}
def QAY : Ann := {}
def Qzw : Ann := { ord := [(5, [0, 1, 2, 3, 4, 5, 6, 7, 8, 9, 10, 11, 13, 14, 15, 16, 17, 12, 18, 19, 20, 21])], eb := [(5, [18])], lp := [(3, ⟨[0, 3, 4], [.s 3 3], [3], [.s 3 3]⟩)], sh := [.z 3] }
def QxS : Ann := { jn := [(4, (35, 10, 35))], lp := [(2, ⟨[0, 3], [], [0], []⟩)], rt := ⟨[2], [], [], []⟩ }
def Qyw : Ann := { jn := [(4, (61, 10, 61))], lp := [(2, ⟨[0, 3], [], [0], []⟩)], rt := ⟨[2], [], [], []⟩ }
def Qwc : Ann := { jn := [(4, (53, 11, 53)), (9, (77, 59, 77))], lp := [(2, ⟨[0, 3], [], [0], []⟩), (7, ⟨[0, 3, 4], [], [0, 3], []⟩)], rt := ⟨[2], [], [], []⟩ }
def Qvo : Ann := { jn := [(5, (58, 16, 58)), (10, (84, 64, 84))], lp := [(2, ⟨[0, 3], [], [0], []⟩), (8, ⟨[0, 3, 4, 5], [.s 4 0], [0, 3], []⟩)], rt := ⟨[2], [], [], []⟩ }
def QyQ : Ann := { jn := [(3, (15, 7, 15)), (7, (67, 25, 67)), (10, (96, 73, 96))], lp := [(3, ⟨[0, 3, 4], [], [0], []⟩)], rt := ⟨[2], [], [], []⟩ }
def Qzy : Ann := { jn := [(5, (58, 15, 58))], lp := [(2, ⟨[0, 3], [], [0], []⟩)], rt := ⟨[2], [], [], []⟩ }
def Qte : Ann := { ord := [(13, [0, 1, 2, 3, 4, 5, 6, 7, 8, 9, 10, 11, 14, 15, 12, 13, 16, 17, 18, 19, 20, 21, 22, 23, 24, 25, 26, 27, 28, 29])], jn := [(13, (77, 48, 77)), (18, (103, 85, 103))], lp := [(5, ⟨[1, 3, 4], [.s 1 0, .s 3 1], [1, 3], [.s 1 0, .s 3 1]⟩), (10, ⟨[1, 3, 5], [.s 1 0, .s 3 1], [1], [.s 1 0]⟩), (16, ⟨[1, 7], [.s 1 0], [], []⟩)], rt := ⟨[2], [], [], []⟩ }
def Qze : Ann := { ord := [(8, [0, 1, 2, 3, 4, 5, 6, 7, 8, 9, 10, 11, 12, 13, 14, 15, 16, 17, 18, 19, 20, 21, 22, 23, 24, 25, 26, 27, 28, 29, 30, 32, 33, 34, 35, 36, 38, 31, 37, 39, 40, 41, 42, 43, 44, 45, 46, 47])], jn := [(8, (77, 30, 77))], lp := [(4, ⟨[1, 3], [.s 1 0], [], []⟩)], rt := ⟨[2], [], [], []⟩ }
def QyO : Ann := { jn := [(6, (34, 15, 34))], lp := [(4, ⟨[0, 8, 9, 10], [], [], []⟩)], rt := ⟨[2], [], [], []⟩ }
def Qwq : Ann := { jn := [(6, (51, 15, 51))], lp := [(4, ⟨[0, 8, 9, 10], [], [], []⟩)], rt := ⟨[2], [], [], []⟩ }
def Qwv : Ann := { jn := [(6, (54, 15, 54))], lp := [(4, ⟨[0, 8, 9, 10], [], [], []⟩)], rt := ⟨[2], [], [], []⟩ }
def Qvh : Ann := { jn := [(6, (59, 17, 59)), (11, (82, 68, 82))], lp := [(4, ⟨[0, 10, 11, 12], [], [], []⟩), (9, ⟨[0, 4, 10, 11, 12, 62, 63, 64], [.s 4 0], [0, 10, 11, 12], []⟩)], rt := ⟨[2], [], [], []⟩ }
def QzD : Ann := { jn := [(7, (61, 17, 61)), (13, (83, 73, 83))], lp := [(5, ⟨[0, 3, 10, 11, 12], [], [], []⟩)], rt := ⟨[2], [], [], []⟩ }
def Qzu : Ann := { jn := [(6, (58, 15, 58))], lp := [(4, ⟨[0, 8, 9, 10], [], [], []⟩)], rt := ⟨[2], [], [], []⟩ }
def QtR : Ann := { ord := [(7, [0, 1, 2, 3, 4, 5, 6, 7, 8, 9, 10, 11, 12, 13, 14, 15, 18, 19, 20, 21, 16, 17, 22, 23, 24])], jn := [(7, (54, 30, 54)), (13, (73, 63, 73))], lp := [(5, ⟨[1, 3, 23, 24, 25], [.s 1 0, .s 3 1], [1, 3], [.s 1 0, .s 3 1]⟩), (11, ⟨[1, 3, 57, 58, 59], [.s 1 0, .s 3 1], [1, 3], [.s 1 0, .s 3 1]⟩), (17, ⟨[1, 75, 76, 77], [.s 1 0, .s 75 1], [], []⟩)], rt := ⟨[2], [], [], []⟩ }
def QxZ : Ann := { ord := [(7, [0, 1, 2, 3, 4, 5, 6, 7, 8, 9, 10, 11, 12, 13, 14, 15, 16, 17, 18, 19, 20, 21, 22, 24, 26, 27, 23, 25, 28, 29, 30])], jn := [(7, (56, 26, 56))], lp := [(4, ⟨[1, 14, 15, 16], [.s 1 0], [], []⟩)], rt := ⟨[2], [], [], []⟩ }
def Qr8 : Ann := { lp := [(3, ⟨[1, 3, 13, 14, 15], [.s 1 0], [1, 3], [.s 1 0]⟩), (8, ⟨[1, 3, 25, 26, 27], [.s 1 0], [1, 3], [.s 1 0]⟩), (13, ⟨[1, 3, 37, 38, 39], [.s 1 0], [1, 3], [.s 1 0]⟩), (18, ⟨[3, 49, 50, 51], [], [3], []⟩)] }
def QAV : Ann := {}
def QBb : Ann := {}
def QAw : Ann := {}
def QAl : Ann := {}
def QB3 : Ann := {}
def Qx0 : Ann := { lp := [(2, ⟨[0, 1, 5], [], [1], []⟩)], rt := ⟨[4], [], [], []⟩ }
def QC5 : Ann := {}
def QCP : Ann := { sh := [.a [0, 2, 0]] }
def QB1 : Ann := {}
def Qz0 : Ann := {}
def QB5 : Ann := {}
def QDj : Ann := {}
def QDi : Ann := { sh := [.z 8] }
def Qzz : Ann := { lp := [(3, ⟨[3, 7, 8, 9], [.s 3 3], [3], [.s 3 3]⟩)], sh := [.z 3] }
def QDc : Ann := { sh := [.z 5] }
def QCi : Ann := { sh := [.z 4] }
def QC3 : Ann := { sh := [.z 5] }
def QDh : Ann := { sh := [.z 4] }
def QAm : Ann := {}
def QwX : Ann := { lp := [(2, ⟨[0, 1, 5], [], [], []⟩)], rt := ⟨[4], [], [], []⟩ }
def QAW : Ann := {}
def Qzf : Ann := { lp := [(2, ⟨[0, 1, 5], [], [], []⟩)], rt := ⟨[4], [], [], []⟩ }
def QBw : Ann := { jn := [(1, (2, 3, 26))] }
def QyR : Ann := { jn := [(4, (43, 10, 43))], lp := [(2, ⟨[0, 3], [], [0], []⟩)], rt := ⟨[2], [], [], []⟩ }
def n189 : Ann := {}
def Qqt : Ann := { lp := [(2, ⟨[0, 1, 7, 8], [], [], []⟩)], rt := ⟨[4], [], [], []⟩ }
def QCx : Ann := {}
def QDb : Ann := {}
def QAN : Ann := { sh := [.z 2] }
def QBB : Ann := {}
def Qzv : Ann := { lp := [(2, ⟨[1, 7, 8, 9], [], [], []⟩)], rt := ⟨[4], [], [], []⟩ }
def QBW : Ann := { jn := [(1, (2, 3, 26))] }
def Qzp : Ann := { jn := [(6, (39, 15, 39))], lp := [(4, ⟨[0, 8, 9, 10], [], [], []⟩)], rt := ⟨[2], [], [], []⟩ }
def QDv : Ann := {}
def Qym : Ann := {}
def Qz3 : Ann := { jn := [(1, (3, 4, 16))] }
def QxU : Ann := { lp := [(2, ⟨[0, 1, 7, 8], [], [], []⟩)], rt := ⟨[4], [], [], []⟩ }
def QB4 : Ann := {}
def Qxa : Ann := { jn := [(3, (21, 15, 21))], lp := [(6, ⟨[6, 7, 8], [.s 6 3], [6], [.s 6 3]⟩)], sh := [.z 3, .n] }
def QCo : Ann := { ot := [(1, .one 1 (.alt (.one 0 (.alt (.one 2 (.one 3 (.one 4 (.one 5 (.one 6 (.done)))))) (.one 3 (.alt (.one 2 (.one 4 (.one 5 (.one 6 (.done))))) (.one 4 (.one 2 (.one 5 (.one 6 (.done))))))))) (.one 3 (.alt (.one 0 (.alt (.one 2 (.one 4 (.one 5 (.one 6 (.done))))) (.one 4 (.one 2 (.one 5 (.one 6 (.done))))))) (.one 4 (.one 0 (.one 2 (.one 5 (.one 6 (.done))))))))))], sh := [.z 4, .n] }
def QCJ : Ann := { jn := [(1, (2, 3, 26))] }
def QCQ : Ann := {}
def QDM : Ann := {}
def QAp : Ann := { jn := [(3, (19, 13, 19))], sh := [.z 3, .n] }
def QAb : Ann := { jn := [(1, (2, 3, 26))] }
def QC6 : Ann := { jn := [(1, (4, 5, 13))] }
def QBY : Ann := { jn := [(1, (4, 5, 13))] }
def QAG : Ann := { jn := [(1, (3, 4, 14))] }
def Qx9 : Ann := { jn := [(5, (44, 13, 44))], lp := [(3, ⟨[0, 1, 5, 6], [], [0, 5], []⟩)] }
def QB7 : Ann := {}
def QzF : Ann := { jn := [(5, (37, 15, 37))], lp := [(3, ⟨[0, 1, 5, 8, 9, 10], [], [5], []⟩)] }
def QBi : Ann := {}
def QvH : Ann := { jn := [(4, (26, 11, 26))], lp := [(2, ⟨[0, 3], [], [0], []⟩), (7, ⟨[0, 3, 4], [], [0, 3], []⟩)], rt := ⟨[2], [], [], []⟩ }
def QvY : Ann := { ot := [(8, .one 1 (.one 2 (.one 3 (.one 5 (.one 6 (.one 11 (.one 12 (.one 13 (.alt (.one 0 (.alt (.one 4 (.one 7 (.one 8 (.one 9 (.one 10 (.one 14 (.one 15 (.done)))))))) (.one 7 (.alt (.one 4 (.one 8 (.one 9 (.one 10 (.one 14 (.one 15 (.done))))))) (.one 8 (.alt (.one 4 (.one 9 (.one 10 (.one 14 (.one 15 (.done)))))) (.one 9 (.one 4 (.one 10 (.one 14 (.one 15 (.done)))))))))))) (.one 7 (.alt (.one 0 (.alt (.one 4 (.one 8 (.one 9 (.one 10 (.one 14 (.one 15 (.done))))))) (.one 8 (.alt (.one 4 (.one 9 (.one 10 (.one 14 (.one 15 (.done)))))) (.one 9 (.one 4 (.one 10 (.one 14 (.one 15 (.done)))))))))) (.one 8 (.alt (.one 0 (.alt (.one 4 (.one 9 (.one 10 (.one 14 (.one 15 (.done)))))) (.one 9 (.one 4 (.one 10 (.one 14 (.one 15 (.done)))))))) (.one 9 (.one 0 (.one 4 (.one 10 (.one 14 (.one 15 (.done))))))))))))))))))))], fz := [(8, [3])], jn := [(6, (30, 15, 30))], lp := [(3, ⟨[0, 3, 4], [.s 3 3], [3], [.s 3 3]⟩), (6, ⟨[0, 3, 4, 5], [.s 3 3], [0, 3, 4, 5], [.s 3 3]⟩)], sh := [.z 3] }
def Qtx : Ann := { jn := [(9, (43, 31, 43))], lp := [(4, ⟨[0, 1, 5, 6, 7], [.s 5 1], [0, 1, 5, 6], [.s 5 1]⟩), (13, ⟨[0, 1, 5, 6, 8, 9], [.s 5 1], [5, 8], [.s 5 1]⟩), (18, ⟨[5, 8, 10], [.s 5 1], [5], [.s 5 1]⟩)], rt := ⟨[4], [.s 4 1], [], []⟩, sh := [.z 1] }
def Qxp : Ann := { jn := [(6, (24, 15, 24))], lp := [(4, ⟨[0, 8, 9, 10], [], [], []⟩)], rt := ⟨[2], [], [], []⟩ }
def QAF : Ann := { ac := [(2, 0)], sh := [.z 3] }
def QtF : Ann := { jn := [(2, (23, 15, 23))], lp := [(6, ⟨[0, 1, 5, 6, 25, 26, 27], [.s 5 1], [0, 1, 5, 6], [.s 5 1]⟩), (16, ⟨[0, 5, 6, 9, 43, 44, 45], [.s 5 1], [5, 9], [.s 5 1]⟩), (23, ⟨[5, 9, 13], [.s 5 1], [5], [.s 5 1]⟩)], rt := ⟨[4], [.s 4 1], [], []⟩, sh := [.z 1] }
def QA1 : Ann := {}
def QC2 : Ann := { jn := [(1, (2, 3, 21))] }
def Qxg : Ann := { lp := [(3, ⟨[0, 1, 2, 7, 8], [], [7], []⟩)] }
def Qzj : Ann := { jn := [(3, (16, 9, 16)), (6, (42, 28, 42))], lp := [(3, ⟨[0, 1, 5, 6], [.s 5 1], [5], [.s 5 1]⟩)], sh := [.z 1] }
def Qw3 : Ann := { lp := [(2, ⟨[0, 1, 5], [], [], []⟩)], rt := ⟨[4], [], [], []⟩ }
def QAo : Ann := { jn := [(1, (2, 3, 21))] }
def QCj : Ann := {}
def Qx8 : Ann := { lp := [(2, ⟨[0, 1, 5], [], [], []⟩)], rt := ⟨[4], [], [], []⟩ }
def Qza : Ann := { ac := [(10, 0)], jn := [(7, (36, 20, 36))], lp := [(5, ⟨[0, 1, 5, 13, 14, 15], [.s 5 1], [5], [.s 5 1]⟩)], sh := [.z 1] }
def QAc : Ann := {}
def QDN : Ann := {}
def Qxy : Ann := { lp := [(2, ⟨[0, 1, 7, 8], [], [], []⟩)], rt := ⟨[4], [], [], []⟩ }
def QA8 : Ann := { jn := [(1, (19, 7, 19))] }
def QwT : Ann := { lp := [(2, ⟨[0, 1, 7, 8], [], [], []⟩)], rt := ⟨[4], [], [], []⟩ }
def QDm : Ann := {}
def QDx : Ann := { jn := [(1, (19, 7, 19))] }
def Qx5 : Ann := { lp := [(2, ⟨[0, 1, 7, 8], [], [], []⟩)], rt := ⟨[4], [], [], []⟩ }
def QBR : Ann := {}
def QCt : Ann := {}
def QBm : Ann := {}
def QyS : Ann := { lp := [(3, ⟨[0, 3, 4], [], [3], []⟩)] }
def Qwt : Ann := { lp := [(3, ⟨[3, 6, 7, 8], [], [3], []⟩)] }
def QDo : Ann := { jn := [(1, (2, 3, 11))] }
def QAd : Ann := {}
def QDs : Ann := {}
def QCs : Ann := { sh := [.z 3] }
def QCK : Ann := { ak := [0], ac := [(0, 0)] }
def QBq : Ann := {}
def QDP : Ann := {}
def Qxx : Ann := { ot := [(6, .one 1 (.one 2 (.one 3 (.one 5 (.one 8 (.one 9 (.one 10 (.alt (.one 0 (.alt (.one 4 (.one 6 (.one 7 (.one 11 (.one 12 (.done)))))) (.one 6 (.one 4 (.one 7 (.one 11 (.one 12 (.done)))))))) (.one 6 (.one 0 (.one 4 (.one 7 (.one 11 (.one 12 (.done)))))))))))))))], jn := [(2, (17, 6, 17)), (4, (31, 20, 31))], lp := [(2, ⟨[0, 1, 5], [], [0, 1, 5], []⟩)], sh := [.z 1] }
def Qy3 : Ann := { lp := [(2, ⟨[0, 1, 7, 8], [], [], []⟩)], rt := ⟨[4], [], [], []⟩ }
def QDC : Ann := {}
def QBA : Ann := { jn := [(5, (10, 11, 17))] }
def QCn : Ann := {}
def QAT : Ann := {}
def QxD : Ann := { lp := [(2, ⟨[0, 1, 7, 8], [], [], []⟩)], rt := ⟨[4], [], [], []⟩ }
def Qtf : Ann := { ak := [0], ac := [(3, 0), (6, 0)], lp := [(2, ⟨[0, 1, 2, 6, 7, 8], [.s 0 3], [0, 1, 2, 6, 7], [.s 0 3]⟩), (7, ⟨[0, 1, 2, 6], [.s 0 3], [0], [.s 0 3]⟩), (9, ⟨[0, 1, 2, 6, 7, 8], [.s 0 3], [0, 1, 2, 6, 7], [.s 0 3]⟩)] }
def QBj : Ann := {}
def QC4 : Ann := {}
def QvA : Ann := { ak := [0], jn := [(4, (34, 18, 34))], lp := [(1, ⟨[0, 1, 2, 3, 8], [.s 0 3], [0], [.s 0 3]⟩), (4, ⟨[0, 1, 2, 3, 8, 9], [.s 0 3], [0, 1, 2, 3, 8], [.s 0 3]⟩)] }
noncomputable def T : Tld := { P := Tryz.prog, ann := [(11, n11), (13, n13), (15, n15), (17, n17), (18, n18), (19, n19), (20, n20), (21, n21), (22, n22), (23, n23), (24, n24), (25, n25), (26, n26), (27, n27), (28, n28), (29, n29), (30, n30), (31, n31), (32, n32), (33, n33), (34, n34), (35, n35), (36, n36), (37, n37), (38, n38), (39, n39), (40, n40), (41, n41), (42, n42), (43, n43), (44, n44), (45, n45), (46, n46), (47, n47), (48, n48), (49, n49), (50, n50), (51, n51), (52, n52), (59, n59), (60, n60), (62, n62), (63, n63), (64, n64), (65, n65), (66, n66), (67, n67), (68, n68), (69, n69), (70, n70), (71, n71), (72, n72), (73, n73), (74, n74), (75, n75), (76, n76), (77, n77), (78, n78), (79, n79), (80, n80), (81, n81), (82, n82), (83, n83), (84, n84), (85, n85), (86, n86), (87, n87), (88, n88), (89, n89), (90, n90), (91, n91), (92, n92), (93, n93), (94, n94), (95, n95), (96, n96), (97, n97), (98, n98), (99, n99), (100, Qvt), (101, QCW), (102, Qyy), (103, QBL), (104, QAZ), (105, QBS), (106, QBv), (107, QBc), (108, QDa), (109, QBX), (110, QCc), (111, QyK), (112, Qyf), (113, Qzx), (114, QC8), (116, QyB), (117, QzN), (118, QDO), (119, QAI), (120, QAr), (121, Qz6), (122, QDL), (123, Qxl), (124, QDu), (125, QAn), (126, QDf), (127, QzM), (128, QB9), (129, QzQ), (130, Qxb), (131, QwK), (132, QzY), (133, QCC), (134, QBz), (135, Qw7), (136, QwL), (137, Qz7), (138, QDp), (139, QCY), (140, QAJ), (141, Qz5), (142, QBE), (143, QAC), (144, QCk), (145, QB2), (146, QAY), (147, Qzw), (148, QxS), (149, Qyw), (150, Qwc), (151, Qvo), (152, QyQ), (153, Qzy), (154, Qte), (155, Qze), (156, QyO), (157, Qwq), (158, Qwv), (159, Qvh), (160, QzD), (161, Qzu), (162, QtR), (163, QxZ), (164, Qr8), (165, QAV), (166, QBb), (167, QAw), (168, QAl), (169, QB3), (170, Qx0), (171, QC5), (172, QCP), (173, QB1), (174, Qz0), (175, QB5), (176, QDj), (177, QDi), (178, Qzz), (179, QDc), (180, QCi), (181, QC3), (182, QDh), (183, QAm), (184, QwX), (185, QAW), (186, Qzf), (187, QBw), (188, QyR), (189, n189), (190, Qqt), (191, QCx), (192, QDb), (193, QAN), (194, QBB), (195, Qzv), (196, QBW), (197, Qzp), (198, QDv), (199, Qym), (200, Qz3), (202, QxU), (203, QB4), (206, Qxa), (207, QCo), (208, QCJ), (209, QCQ), (210, QDM), (211, QAp), (212, QAb), (213, QC6), (214, QBY), (215, QAG), (216, Qx9), (217, QB7), (220, QzF), (221, QBi), (222, QvH), (223, QvY), (224, Qtx), (225, Qxp), (226, QAF), (227, QtF), (228, QA1), (229, QC2), (230, Qxg), (231, Qzj), (232, Qw3), (233, QAo), (234, QCj), (235, Qx8), (236, Qza), (237, QAc), (238, QDN), (239, Qxy), (240, QA8), (241, QwT), (242, QDm), (243, QDx), (247, Qx5), (248, QBR), (249, QCt), (250, QBm), (251, QyS), (256, Qwt), (257, QDo), (258, QAd), (259, QDs), (260, QCs), (261, QCK), (262, QBq), (263, QDP), (264, Qxx), (266, Qy3), (267, QDC), (270, QBA), (271, QCn), (274, QAT), (275, QxD), (276, Qtf), (277, QBj), (283, QC4), (284, QvA)], xt := fun _ _ => none, st := fun g => Nat.beq g 265, qt := fun _ => false, pz := [(183, [.z 1, .n])], vt := fun g => Nat.beq g 92 || Nat.beq g 100 || Nat.beq g 115 || Nat.beq g 120 || Nat.beq g 201 || Nat.beq g 218 || Nat.beq g 219, mt := mt }
theorem TP : T.P = Tryz.prog := _root_.id rfl
theorem TZ : T.pz = [(183, [.z 1, .n])] := _root_.id rfl
theorem QAK (n : Nat) (args : List AV) : CP T n 285 args = none := by
 cases n with
 | zero => rfl
 | succ n => rw [QSb T n 285 args (by kernel_rfl)]; rfl
def eY := aI evT <| aI QO4 <| aI @QS1 <| aI @Qos <| @VC
def eZ := aI evB <| aI evT <| aI tys <| aI QO4 <| aI TP <| aI TZ <| aI (@QKc T) <| aI (@QLA T) <| aI (@QLf T) <| aI @QAK <| @QNJ T
theorem QBx (n : Nat) {R} {xs : List Trial} (i : Int) {V} {ys : List Trial} [H1 : EncL QJ R xs] [H2 : EncL QJ V ys] : CM T (n + 1) 115 [some (.lst 4 R), some (.lst 4 V)] [.sl 0, .i .i64 i, .sl 1] = Vi (Qel xs i ys 32) (some (.own 4 ((Q2 xs i ys).map QJ))) () := by
 rcases H1, H2 with ⟨⟨rfl⟩, ⟨rfl⟩⟩
 rw [QCg T n 115 _ _ (by kernel_rfl)]
 show (if 4 = 4 ∧ 4 = 4 ∧ Qs (xs.map QJ) = true ∧ Qs (ys.map QJ) = true then Vi (Qel (xs.map QJ) i (ys.map QJ) 32) (some (AV.own 4 (Q2 (xs.map QJ) i (ys.map QJ)))) () else none) = _
 rw [if_pos ⟨rfl, rfl, Qjw xs, Qjw ys⟩, Qq8, Qp9]
theorem QC7 (n : Nat) {R} {xs : List Claim} (i : Int) {V} {ys : List Claim} [H1 : EncL Qg R xs] [H2 : EncL Qg V ys] : CM T (n + 1) 201 [some (.lst 5 R), some (.lst 5 V)] [.sl 0, .i .i64 i, .sl 1] = Vi (Qel xs i ys 40) (some (.own 5 ((Q2 xs i ys).map Qg))) () := by
 rcases H1, H2 with ⟨⟨rfl⟩, ⟨rfl⟩⟩
 rw [QCg T n 201 _ _ (by kernel_rfl)]
 show (if 5 = 5 ∧ 5 = 5 ∧ Qs (xs.map Qg) = true ∧ Qs (ys.map Qg) = true then Vi (Qel (xs.map Qg) i (ys.map Qg) 40) (some (AV.own 5 (Q2 (xs.map Qg) i (ys.map Qg)))) () else none) = _
 rw [if_pos ⟨rfl, rfl, QkC xs, QkC ys⟩, Qq8, Qp9]
theorem QDH (n : Nat) {R} {xs : List Find} (i : Int) {V} {ys : List Find} [H1 : EncL Qv R xs] [H2 : EncL Qv V ys] : CM T (n + 1) 218 [some (.lst 8 R), some (.lst 8 V)] [.sl 0, .i .i64 i, .sl 1] = Vi (Qel xs i ys 64) (some (.own 8 ((Q2 xs i ys).map Qv))) () := by
 rcases H1, H2 with ⟨⟨rfl⟩, ⟨rfl⟩⟩
 rw [QCg T n 218 _ _ (by kernel_rfl)]
 show (if 8 = 8 ∧ 8 = 8 ∧ Qs (xs.map Qv) = true ∧ Qs (ys.map Qv) = true then Vi (Qel (xs.map Qv) i (ys.map Qv) 64) (some (AV.own 8 (Q2 (xs.map Qv) i (ys.map Qv)))) () else none) = _
 rw [if_pos ⟨rfl, rfl, Qm2 xs, Qm2 ys⟩, Qq8, Qp9]
theorem QCA (n : Nat) {R} {xs : List Secret} (i : Int) {V} {ys : List Secret} [H1 : EncL QG R xs] [H2 : EncL QG V ys] : CM T (n + 1) 219 [some (.lst 3 R), some (.lst 3 V)] [.sl 0, .i .i64 i, .sl 1] = Vi (Qel xs i ys 40) (some (.own 3 ((Q2 xs i ys).map QG))) () := by
 rcases H1, H2 with ⟨⟨rfl⟩, ⟨rfl⟩⟩
 rw [QCg T n 219 _ _ (by kernel_rfl)]
 show (if 3 = 3 ∧ 3 = 3 ∧ Qs (xs.map QG) = true ∧ Qs (ys.map QG) = true then Vi (Qel (xs.map QG) i (ys.map QG) 40) (some (AV.own 3 (Q2 (xs.map QG) i (ys.map QG)))) () else none) = _
 rw [if_pos ⟨rfl, rfl, QhF xs, QhF ys⟩, Qq8, Qp9]
theorem QS5 : cI = Vf := _root_.id rfl
theorem QFb (xs : List Int) : Qdc (xs.map Vf) = some xs := Qt7 xs
theorem QGT : T.st 265 = true := by kernel_rfl
theorem QNq : T.st 19 = false := by kernel_rfl
theorem QIW : T.qt 19 = false := by kernel_rfl
theorem QIE : T.wt 19 = true := by kernel_rfl
theorem QMJ : T.vt 19 = false := by kernel_rfl
theorem QMS : T.st 20 = false := by kernel_rfl
theorem QIk : T.qt 20 = false := by kernel_rfl
theorem QPk : T.wt 20 = true := by kernel_rfl
theorem QMT : T.vt 20 = false := by kernel_rfl
theorem QH5 : T.st 40 = false := by kernel_rfl
theorem QJD : T.qt 40 = false := by kernel_rfl
theorem QHL : T.wt 40 = true := by kernel_rfl
theorem QJb : T.vt 40 = false := by kernel_rfl
theorem QLL : T.st 46 = false := by kernel_rfl
theorem QI1 : T.qt 46 = false := by kernel_rfl
theorem QOV : T.wt 46 = true := by kernel_rfl
theorem QIm : T.vt 46 = false := by kernel_rfl
theorem QL5 : T.st 52 = false := by kernel_rfl
theorem QME : T.qt 52 = false := by kernel_rfl
theorem QIf : T.wt 52 = true := by kernel_rfl
theorem QMr : T.vt 52 = false := by kernel_rfl
theorem QH9 : T.st 72 = false := by kernel_rfl
theorem QPf : T.qt 72 = false := by kernel_rfl
theorem QLS : T.wt 72 = true := by kernel_rfl
theorem QLa : T.vt 72 = false := by kernel_rfl
theorem QJm : T.st 73 = false := by kernel_rfl
theorem QJa : T.qt 73 = false := by kernel_rfl
theorem QPb : T.wt 73 = true := by kernel_rfl
theorem QMH : T.vt 73 = false := by kernel_rfl
theorem QJW : T.st 74 = false := by kernel_rfl
theorem QL6 : T.qt 74 = false := by kernel_rfl
theorem QLM : T.wt 74 = true := by kernel_rfl
theorem QNw : T.vt 74 = false := by kernel_rfl
theorem QLC : T.st 75 = false := by kernel_rfl
theorem QLs : T.qt 75 = false := by kernel_rfl
theorem QJq : T.wt 75 = true := by kernel_rfl
theorem QLE : T.vt 75 = false := by kernel_rfl
theorem QL0 : T.st 76 = false := by kernel_rfl
theorem QKw : T.qt 76 = false := by kernel_rfl
theorem QL1 : T.wt 76 = true := by kernel_rfl
theorem QKT : T.vt 76 = false := by kernel_rfl
theorem QPl : T.st 77 = false := by kernel_rfl
theorem QNm : T.qt 77 = false := by kernel_rfl
theorem QN4 : T.wt 77 = true := by kernel_rfl
theorem QJJ : T.vt 77 = false := by kernel_rfl
theorem QNf : T.st 92 = false := by kernel_rfl
theorem QOZ : T.qt 92 = false := by kernel_rfl
theorem QNL : T.wt 92 = false := by kernel_rfl
theorem QJ2 : T.vt 92 = true := by kernel_rfl
theorem QGU : T.st 100 = false := by kernel_rfl
theorem QGj : T.qt 100 = false := by kernel_rfl
theorem QGz : T.wt 100 = false := by kernel_rfl
theorem QHq : T.vt 100 = true := by kernel_rfl
theorem QEY : T.st 115 = false := by kernel_rfl
theorem QFT : T.qt 115 = false := by kernel_rfl
theorem QHu : T.wt 115 = false := by kernel_rfl
theorem QFy : T.vt 115 = true := by kernel_rfl
theorem QGx : T.st 120 = false := by kernel_rfl
theorem QEJ : T.qt 120 = false := by kernel_rfl
theorem QEk : T.wt 120 = false := by kernel_rfl
theorem QEL : T.vt 120 = true := by kernel_rfl
theorem QGg : T.st 201 = false := by kernel_rfl
theorem QFs : T.qt 201 = false := by kernel_rfl
theorem QEz : T.wt 201 = false := by kernel_rfl
theorem QHl : T.vt 201 = true := by kernel_rfl
theorem QGA : T.st 218 = false := by kernel_rfl
theorem QHw : T.qt 218 = false := by kernel_rfl
theorem QHb : T.wt 218 = false := by kernel_rfl
theorem QGu : T.vt 218 = true := by kernel_rfl
theorem QEI : T.st 219 = false := by kernel_rfl
theorem QFj : T.qt 219 = false := by kernel_rfl
theorem QHi : T.wt 219 = false := by kernel_rfl
theorem QFX : T.vt 219 = true := by kernel_rfl
theorem QFR : T.st 261 = false := by kernel_rfl
theorem QHo : T.qt 261 = false := by kernel_rfl
theorem QGY : T.wt 261 = true := by kernel_rfl
theorem QFz : T.vt 261 = false := by kernel_rfl
theorem QE2 : T.st 276 = false := by kernel_rfl
theorem QGi : T.qt 276 = false := by kernel_rfl
theorem QGb : T.wt 276 = true := by kernel_rfl
theorem QED : T.vt 276 = false := by kernel_rfl
theorem QEm : T.st 284 = false := by kernel_rfl
theorem QFx : T.qt 284 = false := by kernel_rfl
theorem QFQ : T.wt 284 = true := by kernel_rfl
theorem QGV : T.vt 284 = false := by kernel_rfl
def srt := aI @QS5 <| aI @QFb <| aI @QI2 <| aI @QNR <| aI @QIZ <| aI @QNH <| aI @QGT <| aI @QNq <| aI @QIW <| aI @QIE <| aI @QMJ <| aI @QMS <| aI @QIk <| aI @QPk <| aI @QMT <| aI @QH5 <| aI @QJD <| aI @QHL <| aI @QJb <| aI @QLL <| aI @QI1 <| aI @QOV <| aI @QIm <| aI @QL5 <| aI @QME <| aI @QIf <| aI @QMr <| aI @QH9 <| aI @QPf <| aI @QLS <| aI @QLa <| aI @QJm <| aI @QJa <| aI @QPb <| aI @QMH <| aI @QJW <| aI @QL6 <| aI @QLM <| aI @QNw <| aI @QLC <| aI @QLs <| aI @QJq <| aI @QLE <| aI @QL0 <| aI @QKw <| aI @QL1 <| aI @QKT <| aI @QPl <| aI @QNm <| aI @QN4 <| aI @QJJ <| aI @QNf <| aI @QOZ <| aI @QNL <| aI @QJ2 <| aI @QGU <| aI @QGj <| aI @QGz <| aI @QHq <| aI @QEY <| aI @QFT <| aI @QHu <| aI @QFy <| aI @QGx <| aI @QEJ <| aI @QEk <| aI @QEL <| aI @QGg <| aI @QFs <| aI @QEz <| aI @QHl <| aI @QGA <| aI @QHw <| aI @QHb <| aI @QGu <| aI @QEI <| aI @QFj <| aI @QHi <| aI @QFX <| aI @QFR <| aI @QHo <| aI @QGY <| aI @QFz <| aI @QE2 <| aI @QGi <| aI @QGb <| aI @QED <| aI @QEm <| aI @QFx <| aI @QFQ @QGV
theorem a11 : T.at 11 = some n11 := by kernel_rfl
theorem a13 : T.at 13 = some n13 := by kernel_rfl
theorem a15 : T.at 15 = some n15 := by kernel_rfl
theorem a17 : T.at 17 = some n17 := by kernel_rfl
theorem a18 : T.at 18 = some n18 := by kernel_rfl
theorem a19 : T.at 19 = some n19 := by kernel_rfl
theorem a20 : T.at 20 = some n20 := by kernel_rfl
theorem a21 : T.at 21 = some n21 := by kernel_rfl
theorem a22 : T.at 22 = some n22 := by kernel_rfl
theorem a23 : T.at 23 = some n23 := by kernel_rfl
theorem a24 : T.at 24 = some n24 := by kernel_rfl
theorem a25 : T.at 25 = some n25 := by kernel_rfl
theorem a26 : T.at 26 = some n26 := by kernel_rfl
theorem a27 : T.at 27 = some n27 := by kernel_rfl
theorem a28 : T.at 28 = some n28 := by kernel_rfl
theorem a29 : T.at 29 = some n29 := by kernel_rfl
theorem a30 : T.at 30 = some n30 := by kernel_rfl
theorem a31 : T.at 31 = some n31 := by kernel_rfl
theorem a32 : T.at 32 = some n32 := by kernel_rfl
theorem a33 : T.at 33 = some n33 := by kernel_rfl
theorem a34 : T.at 34 = some n34 := by kernel_rfl
theorem a35 : T.at 35 = some n35 := by kernel_rfl
theorem a36 : T.at 36 = some n36 := by kernel_rfl
theorem a37 : T.at 37 = some n37 := by kernel_rfl
theorem a38 : T.at 38 = some n38 := by kernel_rfl
theorem a39 : T.at 39 = some n39 := by kernel_rfl
theorem a40 : T.at 40 = some n40 := by kernel_rfl
theorem a41 : T.at 41 = some n41 := by kernel_rfl
theorem a42 : T.at 42 = some n42 := by kernel_rfl
theorem a43 : T.at 43 = some n43 := by kernel_rfl
theorem a44 : T.at 44 = some n44 := by kernel_rfl
theorem a45 : T.at 45 = some n45 := by kernel_rfl
theorem a46 : T.at 46 = some n46 := by kernel_rfl
theorem a47 : T.at 47 = some n47 := by kernel_rfl
theorem a48 : T.at 48 = some n48 := by kernel_rfl
theorem a49 : T.at 49 = some n49 := by kernel_rfl
theorem a50 : T.at 50 = some n50 := by kernel_rfl
theorem a51 : T.at 51 = some n51 := by kernel_rfl
theorem a52 : T.at 52 = some n52 := by kernel_rfl
theorem a59 : T.at 59 = some n59 := by kernel_rfl
theorem a60 : T.at 60 = some n60 := by kernel_rfl
theorem a62 : T.at 62 = some n62 := by kernel_rfl
theorem a63 : T.at 63 = some n63 := by kernel_rfl
theorem a64 : T.at 64 = some n64 := by kernel_rfl
theorem a65 : T.at 65 = some n65 := by kernel_rfl
theorem a66 : T.at 66 = some n66 := by kernel_rfl
theorem a67 : T.at 67 = some n67 := by kernel_rfl
theorem a68 : T.at 68 = some n68 := by kernel_rfl
theorem a69 : T.at 69 = some n69 := by kernel_rfl
theorem a70 : T.at 70 = some n70 := by kernel_rfl
theorem a71 : T.at 71 = some n71 := by kernel_rfl
theorem a72 : T.at 72 = some n72 := by kernel_rfl
theorem a73 : T.at 73 = some n73 := by kernel_rfl
theorem a74 : T.at 74 = some n74 := by kernel_rfl
theorem a75 : T.at 75 = some n75 := by kernel_rfl
theorem a76 : T.at 76 = some n76 := by kernel_rfl
theorem a77 : T.at 77 = some n77 := by kernel_rfl
theorem a78 : T.at 78 = some n78 := by kernel_rfl
theorem a79 : T.at 79 = some n79 := by kernel_rfl
theorem a80 : T.at 80 = some n80 := by kernel_rfl
theorem a81 : T.at 81 = some n81 := by kernel_rfl
theorem a82 : T.at 82 = some n82 := by kernel_rfl
theorem a83 : T.at 83 = some n83 := by kernel_rfl
theorem a84 : T.at 84 = some n84 := by kernel_rfl
theorem a85 : T.at 85 = some n85 := by kernel_rfl
theorem a86 : T.at 86 = some n86 := by kernel_rfl
theorem a87 : T.at 87 = some n87 := by kernel_rfl
theorem a88 : T.at 88 = some n88 := by kernel_rfl
theorem a89 : T.at 89 = some n89 := by kernel_rfl
theorem a90 : T.at 90 = some n90 := by kernel_rfl
theorem a91 : T.at 91 = some n91 := by kernel_rfl
theorem a92 : T.at 92 = some n92 := by kernel_rfl
theorem a93 : T.at 93 = some n93 := by kernel_rfl
theorem a94 : T.at 94 = some n94 := by kernel_rfl
theorem a95 : T.at 95 = some n95 := by kernel_rfl
theorem a96 : T.at 96 = some n96 := by kernel_rfl
theorem a97 : T.at 97 = some n97 := by kernel_rfl
theorem a98 : T.at 98 = some n98 := by kernel_rfl
theorem a99 : T.at 99 = some n99 := by kernel_rfl
theorem QFf : T.at 100 = some Qvt := by kernel_rfl
theorem QQQ : T.at 101 = some QCW := by kernel_rfl
theorem QKG : T.at 102 = some Qyy := by kernel_rfl
theorem QS4 : T.at 103 = some QBL := by kernel_rfl
theorem QPA : T.at 104 = some QAZ := by kernel_rfl
theorem QTo : T.at 105 = some QBS := by kernel_rfl
theorem QUf : T.at 106 = some QBv := by kernel_rfl
theorem QQ2 : T.at 107 = some QBc := by kernel_rfl
theorem QS0 : T.at 108 = some QDa := by kernel_rfl
theorem QRi : T.at 109 = some QBX := by kernel_rfl
theorem QTl : T.at 110 = some QCc := by kernel_rfl
theorem QLt : T.at 111 = some QyK := by kernel_rfl
theorem QNM : T.at 112 = some Qyf := by kernel_rfl
theorem QL3 : T.at 113 = some Qzx := by kernel_rfl
theorem QUj : T.at 114 = some QC8 := by kernel_rfl
theorem QPo : T.at 116 = some QyB := by kernel_rfl
theorem QN1 : T.at 117 = some QzN := by kernel_rfl
theorem QTC : T.at 118 = some QDO := by kernel_rfl
theorem QR0 : T.at 119 = some QAI := by kernel_rfl
theorem QRP : T.at 120 = some QAr := by kernel_rfl
theorem QRy : T.at 121 = some Qz6 := by kernel_rfl
theorem QSr : T.at 122 = some QDL := by kernel_rfl
theorem QOK : T.at 123 = some Qxl := by kernel_rfl
theorem QRj : T.at 124 = some QDu := by kernel_rfl
theorem QS9 : T.at 125 = some QAn := by kernel_rfl
theorem QQD : T.at 126 = some QDf := by kernel_rfl
theorem QOU : T.at 127 = some QzM := by kernel_rfl
theorem QSl : T.at 128 = some QB9 := by kernel_rfl
theorem QIB : T.at 129 = some QzQ := by kernel_rfl
theorem QJF : T.at 130 = some Qxb := by kernel_rfl
theorem a131 : T.at 131 = some QwK := by kernel_rfl
theorem QRY : T.at 132 = some QzY := by kernel_rfl
theorem QQA : T.at 133 = some QCC := by kernel_rfl
theorem QP7 : T.at 134 = some QBz := by kernel_rfl
theorem QMY : T.at 135 = some Qw7 := by kernel_rfl
theorem QML : T.at 136 = some QwL := by kernel_rfl
theorem QUW : T.at 137 = some Qz7 := by kernel_rfl
theorem QQb : T.at 138 = some QDp := by kernel_rfl
theorem QTr : T.at 139 = some QCY := by kernel_rfl
theorem QSH : T.at 140 = some QAJ := by kernel_rfl
theorem QT8 : T.at 141 = some Qz5 := by kernel_rfl
theorem QUK : T.at 142 = some QBE := by kernel_rfl
theorem QSS : T.at 143 = some QAC := by kernel_rfl
theorem QTn : T.at 144 = some QCk := by kernel_rfl
theorem QUT : T.at 145 = some QB2 := by kernel_rfl
theorem QUq : T.at 146 = some QAY := by kernel_rfl
theorem QIC : T.at 147 = some Qzw := by kernel_rfl
theorem QKL : T.at 148 = some QxS := by kernel_rfl
theorem QHK : T.at 149 = some Qyw := by kernel_rfl
theorem QFJ : T.at 150 = some Qwc := by kernel_rfl
theorem QFB : T.at 151 = some Qvo := by kernel_rfl
theorem QNK : T.at 152 = some QyQ := by kernel_rfl
theorem QKF : T.at 153 = some Qzy := by kernel_rfl
theorem QBP : T.at 154 = some Qte := by kernel_rfl
theorem QIu : T.at 155 = some Qze := by kernel_rfl
theorem QJh : T.at 156 = some QyO := by kernel_rfl
theorem QIT : T.at 157 = some Qwq := by kernel_rfl
theorem QHT : T.at 158 = some Qwv := by kernel_rfl
theorem QEn : T.at 159 = some Qvh := by kernel_rfl
theorem QN3 : T.at 160 = some QzD := by kernel_rfl
theorem QLk : T.at 161 = some Qzu := by kernel_rfl
theorem QBO : T.at 162 = some QtR := by kernel_rfl
theorem QOE : T.at 163 = some QxZ := by kernel_rfl
theorem QxJ : T.at 164 = some Qr8 := by kernel_rfl
theorem QTZ : T.at 165 = some QAV := by kernel_rfl
theorem QPL : T.at 166 = some QBb := by kernel_rfl
theorem QUA : T.at 167 = some QAw := by kernel_rfl
theorem QPY : T.at 168 = some QAl := by kernel_rfl
theorem QQB : T.at 169 = some QB3 := by kernel_rfl
theorem QIr : T.at 170 = some Qx0 := by kernel_rfl
theorem QP4 : T.at 171 = some QC5 := by kernel_rfl
theorem QR4 : T.at 172 = some QCP := by kernel_rfl
theorem QRz : T.at 173 = some QB1 := by kernel_rfl
theorem QT3 : T.at 174 = some Qz0 := by kernel_rfl
theorem QSX : T.at 175 = some QB5 := by kernel_rfl
theorem QR6 : T.at 176 = some QDj := by kernel_rfl
theorem QUb : T.at 177 = some QDi := by kernel_rfl
theorem QOA : T.at 178 = some Qzz := by kernel_rfl
theorem QSu : T.at 179 = some QDc := by kernel_rfl
theorem QPC : T.at 180 = some QCi := by kernel_rfl
theorem QQ8 : T.at 181 = some QC3 := by kernel_rfl
theorem a182 : T.at 182 = some QDh := by kernel_rfl
theorem a183 : T.at 183 = some QAm := by kernel_rfl
theorem QM2 : T.at 184 = some QwX := by kernel_rfl
theorem QUY : T.at 185 = some QAW := by kernel_rfl
theorem QMP : T.at 186 = some Qzf := by kernel_rfl
theorem QRs : T.at 187 = some QBw := by kernel_rfl
theorem QLK : T.at 188 = some QyR := by kernel_rfl
theorem QRE : T.at 189 = some n189 := by kernel_rfl
theorem QvT : T.at 190 = some Qqt := by kernel_rfl
theorem QPV : T.at 191 = some QCx := by kernel_rfl
theorem QS8 : T.at 192 = some QDb := by kernel_rfl
theorem QUx : T.at 193 = some QAN := by kernel_rfl
theorem QS6 : T.at 194 = some QBB := by kernel_rfl
theorem QKN : T.at 195 = some Qzv := by kernel_rfl
theorem QSK : T.at 196 = some QBW := by kernel_rfl
theorem QOh : T.at 197 = some Qzp := by kernel_rfl
theorem QSa : T.at 198 = some QDv := by kernel_rfl
theorem QHN : T.at 199 = some Qym := by kernel_rfl
theorem QRl : T.at 200 = some Qz3 := by kernel_rfl
theorem QJ9 : T.at 202 = some QxU := by kernel_rfl
theorem QP5 : T.at 203 = some QB4 := by kernel_rfl
theorem QLQ : T.at 206 = some Qxa := by kernel_rfl
theorem QRX : T.at 207 = some QCo := by kernel_rfl
theorem QRI : T.at 208 = some QCJ := by kernel_rfl
theorem QPK : T.at 209 = some QCQ := by kernel_rfl
theorem QSN : T.at 210 = some QDM := by kernel_rfl
theorem QPU : T.at 211 = some QAp := by kernel_rfl
theorem QTz : T.at 212 = some QAb := by kernel_rfl
theorem QQJ : T.at 213 = some QC6 := by kernel_rfl
theorem QSv : T.at 214 = some QBY := by kernel_rfl
theorem QSR : T.at 215 = some QAG := by kernel_rfl
theorem QMF : T.at 216 = some Qx9 := by kernel_rfl
theorem QSf : T.at 217 = some QB7 := by kernel_rfl
theorem QNc : T.at 220 = some QzF := by kernel_rfl
theorem QQG : T.at 221 = some QBi := by kernel_rfl
theorem a222 : T.at 222 = some QvH := by kernel_rfl
theorem QGJ : T.at 223 = some QvY := by kernel_rfl
theorem QCN : T.at 224 = some Qtx := by kernel_rfl
theorem QHD : T.at 225 = some Qxp := by kernel_rfl
theorem QUm : T.at 226 = some QAF := by kernel_rfl
theorem Qz1 : T.at 227 = some QtF := by kernel_rfl
theorem a228 : T.at 228 = some QA1 := by kernel_rfl
theorem a229 : T.at 229 = some QC2 := by kernel_rfl
theorem QLF : T.at 230 = some Qxg := by kernel_rfl
theorem QKo : T.at 231 = some Qzj := by kernel_rfl
theorem QLJ : T.at 232 = some Qw3 := by kernel_rfl
theorem QSM : T.at 233 = some QAo := by kernel_rfl
theorem QRv : T.at 234 = some QCj := by kernel_rfl
theorem QJ4 : T.at 235 = some Qx8 := by kernel_rfl
theorem QMm : T.at 236 = some Qza := by kernel_rfl
theorem QRR : T.at 237 = some QAc := by kernel_rfl
theorem QT4 : T.at 238 = some QDN := by kernel_rfl
theorem QNG : T.at 239 = some Qxy := by kernel_rfl
theorem QTc : T.at 240 = some QA8 := by kernel_rfl
theorem QPc : T.at 241 = some QwT := by kernel_rfl
theorem QUp : T.at 242 = some QDm := by kernel_rfl
theorem QRq : T.at 243 = some QDx := by kernel_rfl
theorem QL4 : T.at 247 = some Qx5 := by kernel_rfl
theorem QSg : T.at 248 = some QBR := by kernel_rfl
theorem QRQ : T.at 249 = some QCt := by kernel_rfl
theorem QSx : T.at 250 = some QBm := by kernel_rfl
theorem QMN : T.at 251 = some QyS := by kernel_rfl
theorem QOv : T.at 256 = some Qwt := by kernel_rfl
theorem QSE : T.at 257 = some QDo := by kernel_rfl
theorem QRG : T.at 258 = some QAd := by kernel_rfl
theorem QSY : T.at 259 = some QDs := by kernel_rfl
theorem QQO : T.at 260 = some QCs := by kernel_rfl
theorem QQE : T.at 261 = some QCK := by kernel_rfl
theorem QUP : T.at 262 = some QBq := by kernel_rfl
theorem QQV : T.at 263 = some QDP := by kernel_rfl
theorem QLH : T.at 264 = some Qxx := by kernel_rfl
theorem QO0 : T.at 266 = some Qy3 := by kernel_rfl
theorem QRF : T.at 267 = some QDC := by kernel_rfl
theorem QRk : T.at 270 = some QBA := by kernel_rfl
theorem QSs : T.at 271 = some QCn := by kernel_rfl
theorem QQX : T.at 274 = some QAT := by kernel_rfl
theorem QO2 : T.at 275 = some QxD := by kernel_rfl
theorem QAU : T.at 276 = some Qtf := by kernel_rfl
theorem QTd : T.at 277 = some QBj := by kernel_rfl
theorem QQT : T.at 283 = some QC4 := by kernel_rfl
theorem QGE : T.at 284 = some QvA := by kernel_rfl
end Go.Proofs.YtcdffihcfeajfaaGreat
