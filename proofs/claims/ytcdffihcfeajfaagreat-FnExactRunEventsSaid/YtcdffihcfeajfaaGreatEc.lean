import Derived.Test.YtcdffihcfeajfaaGreatEvB
import Derived.Test.YtcdffihcfeajfaaGreatFn
import Derived.Test.YtcdffihcfeajfaaGreatProg
import Derived.KernelRfl
namespace Go.Proofs.YtcdffihcfeajfaaGreat
open Go Go.Proofs Go.Proofs.YtcdffihcfeajfaaGreat.Am
set_option maxHeartbeats 4000000
set_option linter.unusedVariables false
set_option linter.unusedSimpArgs false
set_option linter.defProp false
set_option maxRecDepth 100000
def Vg (x : Int) : List AV := [.i .i64 x]
theorem Qnj (x : Int) : Vg x = [.i .i64 x] := _root_.id rfl
instance (x : Int) : EncR Vg [.i .i64 x] x := ⟨rfl⟩
theorem QGz (xs : List Int) : QE (xs.map Vg) = xs.map Vg := Qbz (fun x => by simp only [Qnj, VE, Xe]) xs
theorem QGR (xs : List Int) : Qs (xs.map Vg) = true := ZT (fun x => by simp only [Qnj, X6, AV.clean, Bool.and_self]) xs
theorem QGy {R : List (List AV)} {xs : List Int} (i : Int) [h : EncL Vg R xs] : inb R i = inb xs i := by rw [h.eq, Qtb]
theorem QGh {R : List (List AV)} {xs : List Int} (i : Int) [h : EncL Vg R xs] (hi : inb xs i = true) : QR R i.toNat = Vg (gt xs i) := by rw [h.eq, Qr6 xs i hi]
theorem QHJ (xs : List Int) : QbL (xs.map Vg) = true := Qpa (fun x => by rw [Qnj]; rfl) xs
def QrG (x : Int) : List AV := [.i .u8 x]
theorem QqL (x : Int) : QrG x = [.i .u8 x] := _root_.id rfl
instance (x : Int) : EncR QrG [.i .u8 x] x := ⟨rfl⟩
theorem QO4 (xs : List Int) : QE (xs.map QrG) = xs.map QrG := Qbz (fun x => by simp only [QqL, VE, Xe]) xs
theorem QIp (xs : List Int) : Qs (xs.map QrG) = true := ZT (fun x => by simp only [QqL, X6, AV.clean, Bool.and_self]) xs
theorem QPV {R : List (List AV)} {xs : List Int} (i : Int) [h : EncL QrG R xs] : inb R i = inb xs i := by rw [h.eq, Qtb]
theorem QMj {R : List (List AV)} {xs : List Int} (i : Int) [h : EncL QrG R xs] (hi : inb xs i = true) : QR R i.toNat = QrG (gt xs i) := by rw [h.eq, Qr6 xs i hi]
theorem QNV (xs : List Int) : QbL (xs.map QrG) = true := Qpa (fun x => by rw [QqL]; rfl) xs
def c_b (x : Bool) : List AV := [.b x]
theorem Qu6 (x : Bool) : c_b x = [.b x] := _root_.id rfl
instance (x : Bool) : EncR c_b [.b x] x := ⟨rfl⟩
theorem QT7 (xs : List Bool) : QE (xs.map c_b) = xs.map c_b := Qbz (fun x => by simp only [Qu6, VE, Xe]) xs
theorem QRb (xs : List Bool) : Qs (xs.map c_b) = true := ZT (fun x => by simp only [Qu6, X6, AV.clean, Bool.and_self]) xs
theorem QUq {R : List (List AV)} {xs : List Bool} (i : Int) [h : EncL c_b R xs] : inb R i = inb xs i := by rw [h.eq, Qtb]
theorem QR3 {R : List (List AV)} {xs : List Bool} (i : Int) [h : EncL c_b R xs] (hi : inb xs i = true) : QR R i.toNat = c_b (gt xs i) := by rw [h.eq, Qr6 xs i hi]
theorem QQn (xs : List Bool) : QbL (xs.map c_b) = true := Qpa (fun x => by rw [Qu6]; rfl) xs
def c_s (x : List UInt8) : List AV := [.s x]
theorem QuQ (x : List UInt8) : c_s x = [.s x] := _root_.id rfl
instance (x : List UInt8) : EncR c_s [.s x] x := ⟨rfl⟩
theorem QRG (xs : List (List UInt8)) : QE (xs.map c_s) = xs.map c_s := Qbz (fun x => by simp only [QuQ, VE, Xe]) xs
theorem QSV (xs : List (List UInt8)) : Qs (xs.map c_s) = true := ZT (fun x => by simp only [QuQ, X6, AV.clean, Bool.and_self]) xs
theorem QRo {R : List (List AV)} {xs : List (List UInt8)} (i : Int) [h : EncL c_s R xs] : inb R i = inb xs i := by rw [h.eq, Qtb]
theorem QTW {R : List (List AV)} {xs : List (List UInt8)} (i : Int) [h : EncL c_s R xs] (hi : inb xs i = true) : QR R i.toNat = c_s (gt xs i) := by rw [h.eq, Qr6 xs i hi]
theorem QUk (xs : List (List UInt8)) : QbL (xs.map c_s) = true := Qpa (fun x => by rw [QuQ]; rfl) xs
def ZX (x : Thing) : List AV := [.i .i64 x.Id, .i .i64 x.Kind, .i .i64 x.Colour, .i .i64 x.Size, .i .i64 x.Worth]
theorem Qn1 (x : Thing) : ZX x = [.i .i64 x.Id, .i .i64 x.Kind, .i .i64 x.Colour, .i .i64 x.Size, .i .i64 x.Worth] := _root_.id rfl
instance (yxId yxKind yxColour yxSize yxWorth)  : EncR ZX [.i .i64 yxId, .i .i64 yxKind, .i .i64 yxColour, .i .i64 yxSize, .i .i64 yxWorth] (⟨yxId, yxKind, yxColour, yxSize, yxWorth⟩ : Thing) := ⟨by rfl⟩
theorem QyV (xs : List Thing) : QE (xs.map ZX) = xs.map ZX := Qbz (fun x => by simp only [Qn1, VE, Xe]) xs
theorem Qxz (xs : List Thing) : Qs (xs.map ZX) = true := ZT (fun x => by simp only [Qn1, X6, AV.clean, Bool.and_self]) xs
theorem Qz3 (x : Thing) : (⟨x.Id, x.Kind, x.Colour, x.Size, x.Worth⟩ : Thing) = x := _root_.id rfl
def Qv (x : Find) : List AV := [.i .i64 x.Thing.Id, .i .i64 x.Thing.Kind, .i .i64 x.Thing.Colour, .i .i64 x.Thing.Size, .i .i64 x.Thing.Worth, .i .i64 x.Place, .i .i64 x.At, .i .i64 x.Finder]
theorem QqM (x : Find) : Qv x = [.i .i64 x.Thing.Id, .i .i64 x.Thing.Kind, .i .i64 x.Thing.Colour, .i .i64 x.Thing.Size, .i .i64 x.Thing.Worth, .i .i64 x.Place, .i .i64 x.At, .i .i64 x.Finder] := _root_.id rfl
instance (yxThingxId yxThingxKind yxThingxColour yxThingxSize yxThingxWorth yxPlace yxAt yxFinder)  : EncR Qv [.i .i64 yxThingxId, .i .i64 yxThingxKind, .i .i64 yxThingxColour, .i .i64 yxThingxSize, .i .i64 yxThingxWorth, .i .i64 yxPlace, .i .i64 yxAt, .i .i64 yxFinder] (⟨⟨yxThingxId, yxThingxKind, yxThingxColour, yxThingxSize, yxThingxWorth⟩, yxPlace, yxAt, yxFinder⟩ : Find) := ⟨by rfl⟩
theorem Qvv (xs : List Find) : QE (xs.map Qv) = xs.map Qv := Qbz (fun x => by simp only [QqM, VE, Xe]) xs
theorem Qno (xs : List Find) : Qs (xs.map Qv) = true := ZT (fun x => by simp only [QqM, X6, AV.clean, Bool.and_self]) xs
theorem QCN (x : Find) : (⟨x.Thing, x.Place, x.At, x.Finder⟩ : Find) = x := _root_.id rfl
def Vf (x : Mark) : List AV := [.i .i64 x.Question, .i .i64 x.Answer]
theorem QqR (x : Mark) : Vf x = [.i .i64 x.Question, .i .i64 x.Answer] := _root_.id rfl
instance (yxQuestion yxAnswer)  : EncR Vf [.i .i64 yxQuestion, .i .i64 yxAnswer] (⟨yxQuestion, yxAnswer⟩ : Mark) := ⟨by rfl⟩
theorem Qqv (xs : List Mark) : QE (xs.map Vf) = xs.map Vf := Qbz (fun x => by simp only [QqR, VE, Xe]) xs
theorem Qrj (xs : List Mark) : Qs (xs.map Vf) = true := ZT (fun x => by simp only [QqR, X6, AV.clean, Bool.and_self]) xs
theorem QEh (x : Mark) : (⟨x.Question, x.Answer⟩ : Mark) = x := _root_.id rfl
def QH (x : Secret) : List AV := [.i .i64 x.Thing, .imm 2 (x.Marks.map Vf), .i .i64 x.Salt]
theorem Qqd (x : Secret) : QH x = [.i .i64 x.Thing, .imm 2 (x.Marks.map Vf), .i .i64 x.Salt] := _root_.id rfl
instance (yxThing yxSalt) {R1 yxMarks} [H1 : EncL Vf R1 yxMarks] : EncR QH [.i .i64 yxThing, .imm 2 R1, .i .i64 yxSalt] (⟨yxThing, yxMarks, yxSalt⟩ : Secret) := ⟨by obtain ⟨rfl⟩ := H1; rfl⟩
def Qw (x : Secret) : List AV := [.i .i64 x.Thing, .own 2 (x.Marks.map Vf), .i .i64 x.Salt]
theorem Qjg (x : Secret) : Qw x = [.i .i64 x.Thing, .own 2 (x.Marks.map Vf), .i .i64 x.Salt] := _root_.id rfl
instance (yxThing yxSalt) {R1 yxMarks} [H1 : EncL Vf R1 yxMarks] : EncR Qw [.i .i64 yxThing, .own 2 R1, .i .i64 yxSalt] (⟨yxThing, yxMarks, yxSalt⟩ : Secret) := ⟨by obtain ⟨rfl⟩ := H1; rfl⟩
theorem QpO (xs : List Secret) : QE (xs.map Qw) = xs.map QH := Qbz (fun x => by simp only [Qjg, Qqd, VE, Xe, Qqv]) xs
theorem QhP (xs : List Secret) : Qs (xs.map Qw) = true := ZT (fun x => by simp only [Qjg, X6, AV.clean, Bool.and_self, Qrj]) xs
theorem Qv2 (x : Secret) : (⟨x.Thing, x.Marks, x.Salt⟩ : Secret) = x := _root_.id rfl
def Qg (x : Claim) : List AV := [.i .i64 x.Id, .i .i64 x.Who, .i .i64 x.Thing, .i .i64 x.At, .i .i64 x.State]
theorem QoQ (x : Claim) : Qg x = [.i .i64 x.Id, .i .i64 x.Who, .i .i64 x.Thing, .i .i64 x.At, .i .i64 x.State] := _root_.id rfl
instance (yxId yxWho yxThing yxAt yxState)  : EncR Qg [.i .i64 yxId, .i .i64 yxWho, .i .i64 yxThing, .i .i64 yxAt, .i .i64 yxState] (⟨yxId, yxWho, yxThing, yxAt, yxState⟩ : Claim) := ⟨by rfl⟩
theorem Qsb (xs : List Claim) : QE (xs.map Qg) = xs.map Qg := Qbz (fun x => by simp only [QoQ, VE, Xe]) xs
theorem Qkg (xs : List Claim) : Qs (xs.map Qg) = true := ZT (fun x => by simp only [QoQ, X6, AV.clean, Bool.and_self]) xs
theorem Qy7 (x : Claim) : (⟨x.Id, x.Who, x.Thing, x.At, x.State⟩ : Claim) = x := _root_.id rfl
def QA (x : Trial) : List AV := [.i .i64 x.Claim, .i .i64 x.Asked, .i .i64 x.Right, .i .i64 x.Wrong]
theorem QnD (x : Trial) : QA x = [.i .i64 x.Claim, .i .i64 x.Asked, .i .i64 x.Right, .i .i64 x.Wrong] := _root_.id rfl
instance (yxClaim yxAsked yxRight yxWrong)  : EncR QA [.i .i64 yxClaim, .i .i64 yxAsked, .i .i64 yxRight, .i .i64 yxWrong] (⟨yxClaim, yxAsked, yxRight, yxWrong⟩ : Trial) := ⟨by rfl⟩
theorem QsW (xs : List Trial) : QE (xs.map QA) = xs.map QA := Qbz (fun x => by simp only [QnD, VE, Xe]) xs
theorem Qj0 (xs : List Trial) : Qs (xs.map QA) = true := ZT (fun x => by simp only [QnD, X6, AV.clean, Bool.and_self]) xs
theorem QzN (x : Trial) : (⟨x.Claim, x.Asked, x.Right, x.Wrong⟩ : Trial) = x := _root_.id rfl
def QL (x : Slot) : List AV := [.i .i64 x.Id, .i .i64 x.Size, .i .i64 x.Thing]
theorem QrD (x : Slot) : QL x = [.i .i64 x.Id, .i .i64 x.Size, .i .i64 x.Thing] := _root_.id rfl
instance (yxId yxSize yxThing)  : EncR QL [.i .i64 yxId, .i .i64 yxSize, .i .i64 yxThing] (⟨yxId, yxSize, yxThing⟩ : Slot) := ⟨by rfl⟩
theorem QuU (xs : List Slot) : QE (xs.map QL) = xs.map QL := Qbz (fun x => by simp only [QrD, VE, Xe]) xs
theorem QuK (xs : List Slot) : Qs (xs.map QL) = true := ZT (fun x => by simp only [QrD, X6, AV.clean, Bool.and_self]) xs
theorem QBW (x : Slot) : (⟨x.Id, x.Size, x.Thing⟩ : Slot) = x := _root_.id rfl
def Q1 (x : Hand) : List AV := [.i .i64 x.Thing, .i .i64 x.Holder, .i .i64 x.Who, .i .i64 x.At, .i .i64 x.Seal]
theorem Qrk (x : Hand) : Q1 x = [.i .i64 x.Thing, .i .i64 x.Holder, .i .i64 x.Who, .i .i64 x.At, .i .i64 x.Seal] := _root_.id rfl
instance (yxThing yxHolder yxWho yxAt yxSeal)  : EncR Q1 [.i .i64 yxThing, .i .i64 yxHolder, .i .i64 yxWho, .i .i64 yxAt, .i .i64 yxSeal] (⟨yxThing, yxHolder, yxWho, yxAt, yxSeal⟩ : Hand) := ⟨by rfl⟩
theorem QuR (xs : List Hand) : QE (xs.map Q1) = xs.map Q1 := Qbz (fun x => by simp only [Qrk, VE, Xe]) xs
theorem Qu7 (xs : List Hand) : Qs (xs.map Q1) = true := ZT (fun x => by simp only [Qrk, X6, AV.clean, Bool.and_self]) xs
theorem QBb (x : Hand) : (⟨x.Thing, x.Holder, x.Who, x.At, x.Seal⟩ : Hand) = x := _root_.id rfl
def QK (x : Entry) : List AV := [.i .i64 x.From, .i .i64 x.To, .i .i64 x.Cents, .i .i64 x.At]
theorem Qo7 (x : Entry) : QK x = [.i .i64 x.From, .i .i64 x.To, .i .i64 x.Cents, .i .i64 x.At] := _root_.id rfl
instance (yxFrom yxTo yxCents yxAt)  : EncR QK [.i .i64 yxFrom, .i .i64 yxTo, .i .i64 yxCents, .i .i64 yxAt] (⟨yxFrom, yxTo, yxCents, yxAt⟩ : Entry) := ⟨by rfl⟩
theorem QsX (xs : List Entry) : QE (xs.map QK) = xs.map QK := Qbz (fun x => by simp only [Qo7, VE, Xe]) xs
theorem Qsq (xs : List Entry) : Qs (xs.map QK) = true := ZT (fun x => by simp only [Qo7, X6, AV.clean, Bool.and_self]) xs
theorem QxW (x : Entry) : (⟨x.From, x.To, x.Cents, x.At⟩ : Entry) = x := _root_.id rfl
def QC (x : House) : List AV := [.i .i64 x.No, .imm 8 (x.Finds.map Qv), .imm 3 (x.Secrets.map QH), .imm 3 (x.Slots.map QL), .imm 5 (x.Claims.map Qg), .imm 4 (x.Trials.map QA), .imm 5 (x.Chain.map Q1), .imm 4 (x.Book.map QK), .i .i64 x.Now]
theorem Qsz (x : House) : QC x = [.i .i64 x.No, .imm 8 (x.Finds.map Qv), .imm 3 (x.Secrets.map QH), .imm 3 (x.Slots.map QL), .imm 5 (x.Claims.map Qg), .imm 4 (x.Trials.map QA), .imm 5 (x.Chain.map Q1), .imm 4 (x.Book.map QK), .i .i64 x.Now] := _root_.id rfl
instance (yxNo yxNow) {R1 yxFinds R2 yxSecrets R3 yxSlots R4 yxClaims R5 yxTrials R6 yxChain R7 yxBook} [H1 : EncL Qv R1 yxFinds] [H2 : EncL QH R2 yxSecrets] [H3 : EncL QL R3 yxSlots] [H4 : EncL Qg R4 yxClaims] [H5 : EncL QA R5 yxTrials] [H6 : EncL Q1 R6 yxChain] [H7 : EncL QK R7 yxBook] : EncR QC [.i .i64 yxNo, .imm 8 R1, .imm 3 R2, .imm 3 R3, .imm 5 R4, .imm 4 R5, .imm 5 R6, .imm 4 R7, .i .i64 yxNow] (⟨yxNo, yxFinds, yxSecrets, yxSlots, yxClaims, yxTrials, yxChain, yxBook, yxNow⟩ : House) := ⟨by obtain ⟨rfl⟩ := H1; obtain ⟨rfl⟩ := H2; obtain ⟨rfl⟩ := H3; obtain ⟨rfl⟩ := H4; obtain ⟨rfl⟩ := H5; obtain ⟨rfl⟩ := H6; obtain ⟨rfl⟩ := H7; rfl⟩
def Vz (x : House) : List AV := [.i .i64 x.No, .own 8 (x.Finds.map Qv), .own 3 (x.Secrets.map Qw), .own 3 (x.Slots.map QL), .own 5 (x.Claims.map Qg), .own 4 (x.Trials.map QA), .own 5 (x.Chain.map Q1), .own 4 (x.Book.map QK), .i .i64 x.Now]
theorem Qlf (x : House) : Vz x = [.i .i64 x.No, .own 8 (x.Finds.map Qv), .own 3 (x.Secrets.map Qw), .own 3 (x.Slots.map QL), .own 5 (x.Claims.map Qg), .own 4 (x.Trials.map QA), .own 5 (x.Chain.map Q1), .own 4 (x.Book.map QK), .i .i64 x.Now] := _root_.id rfl
instance (yxNo yxNow) {R1 yxFinds R2 yxSecrets R3 yxSlots R4 yxClaims R5 yxTrials R6 yxChain R7 yxBook} [H1 : EncL Qv R1 yxFinds] [H2 : EncL Qw R2 yxSecrets] [H3 : EncL QL R3 yxSlots] [H4 : EncL Qg R4 yxClaims] [H5 : EncL QA R5 yxTrials] [H6 : EncL Q1 R6 yxChain] [H7 : EncL QK R7 yxBook] : EncR Vz [.i .i64 yxNo, .own 8 R1, .own 3 R2, .own 3 R3, .own 5 R4, .own 4 R5, .own 5 R6, .own 4 R7, .i .i64 yxNow] (⟨yxNo, yxFinds, yxSecrets, yxSlots, yxClaims, yxTrials, yxChain, yxBook, yxNow⟩ : House) := ⟨by obtain ⟨rfl⟩ := H1; obtain ⟨rfl⟩ := H2; obtain ⟨rfl⟩ := H3; obtain ⟨rfl⟩ := H4; obtain ⟨rfl⟩ := H5; obtain ⟨rfl⟩ := H6; obtain ⟨rfl⟩ := H7; rfl⟩
theorem QwT (xs : List House) : QE (xs.map Vz) = xs.map QC := Qbz (fun x => by simp only [Qlf, Qsz, VE, Xe, Qsb, QsX, Qvv, QuR, QpO, QuU, QsW]) xs
theorem QyP (xs : List House) : Qs (xs.map Vz) = true := ZT (fun x => by simp only [Qlf, X6, AV.clean, Bool.and_self, Qkg, Qsq, Qno, Qu7, QhP, QuK, Qj0]) xs
theorem Qx1 (x : House) : (⟨x.No, x.Finds, x.Secrets, x.Slots, x.Claims, x.Trials, x.Chain, x.Book, x.Now⟩ : House) = x := _root_.id rfl
def Vx (x : Bid) : List AV := [.i .i64 x.Who, .i .i64 x.Cents, .i .i64 x.Seal]
theorem Qqy (x : Bid) : Vx x = [.i .i64 x.Who, .i .i64 x.Cents, .i .i64 x.Seal] := _root_.id rfl
instance (yxWho yxCents yxSeal)  : EncR Vx [.i .i64 yxWho, .i .i64 yxCents, .i .i64 yxSeal] (⟨yxWho, yxCents, yxSeal⟩ : Bid) := ⟨by rfl⟩
theorem Qy4 (xs : List Bid) : QE (xs.map Vx) = xs.map Vx := Qbz (fun x => by simp only [Qqy, VE, Xe]) xs
theorem QAf (xs : List Bid) : Qs (xs.map Vx) = true := ZT (fun x => by simp only [Qqy, X6, AV.clean, Bool.and_self]) xs
theorem QHs (x : Bid) : (⟨x.Who, x.Cents, x.Seal⟩ : Bid) = x := _root_.id rfl
theorem QHZ (xs : List Bid) : QbL (xs.map Vx) = true := Qpa (fun x => by rw [Qqy]; rfl) xs
def XB (x : Event) : List AV := [.i .i64 x.Kind, .i .i64 x.Find.Thing.Id, .i .i64 x.Find.Thing.Kind, .i .i64 x.Find.Thing.Colour, .i .i64 x.Find.Thing.Size, .i .i64 x.Find.Thing.Worth, .i .i64 x.Find.Place, .i .i64 x.Find.At, .i .i64 x.Find.Finder, .imm 2 (x.Marks.map Vf), .i .i64 x.Id, .i .i64 x.Who, .i .i64 x.N, .imm 3 (x.Bids.map Vx)]
theorem QrY (x : Event) : XB x = [.i .i64 x.Kind, .i .i64 x.Find.Thing.Id, .i .i64 x.Find.Thing.Kind, .i .i64 x.Find.Thing.Colour, .i .i64 x.Find.Thing.Size, .i .i64 x.Find.Thing.Worth, .i .i64 x.Find.Place, .i .i64 x.Find.At, .i .i64 x.Find.Finder, .imm 2 (x.Marks.map Vf), .i .i64 x.Id, .i .i64 x.Who, .i .i64 x.N, .imm 3 (x.Bids.map Vx)] := _root_.id rfl
instance (yxKind yxFindxThingxId yxFindxThingxKind yxFindxThingxColour yxFindxThingxSize yxFindxThingxWorth yxFindxPlace yxFindxAt yxFindxFinder yxId yxWho yxN) {R1 yxMarks R2 yxBids} [H1 : EncL Vf R1 yxMarks] [H2 : EncL Vx R2 yxBids] : EncR XB [.i .i64 yxKind, .i .i64 yxFindxThingxId, .i .i64 yxFindxThingxKind, .i .i64 yxFindxThingxColour, .i .i64 yxFindxThingxSize, .i .i64 yxFindxThingxWorth, .i .i64 yxFindxPlace, .i .i64 yxFindxAt, .i .i64 yxFindxFinder, .imm 2 R1, .i .i64 yxId, .i .i64 yxWho, .i .i64 yxN, .imm 3 R2] (⟨yxKind, ⟨⟨yxFindxThingxId, yxFindxThingxKind, yxFindxThingxColour, yxFindxThingxSize, yxFindxThingxWorth⟩, yxFindxPlace, yxFindxAt, yxFindxFinder⟩, yxMarks, yxId, yxWho, yxN, yxBids⟩ : Event) := ⟨by obtain ⟨rfl⟩ := H1; obtain ⟨rfl⟩ := H2; rfl⟩
def Qc6 (x : Event) : List AV := [.i .i64 x.Kind, .i .i64 x.Find.Thing.Id, .i .i64 x.Find.Thing.Kind, .i .i64 x.Find.Thing.Colour, .i .i64 x.Find.Thing.Size, .i .i64 x.Find.Thing.Worth, .i .i64 x.Find.Place, .i .i64 x.Find.At, .i .i64 x.Find.Finder, .own 2 (x.Marks.map Vf), .i .i64 x.Id, .i .i64 x.Who, .i .i64 x.N, .own 3 (x.Bids.map Vx)]
theorem QlI (x : Event) : Qc6 x = [.i .i64 x.Kind, .i .i64 x.Find.Thing.Id, .i .i64 x.Find.Thing.Kind, .i .i64 x.Find.Thing.Colour, .i .i64 x.Find.Thing.Size, .i .i64 x.Find.Thing.Worth, .i .i64 x.Find.Place, .i .i64 x.Find.At, .i .i64 x.Find.Finder, .own 2 (x.Marks.map Vf), .i .i64 x.Id, .i .i64 x.Who, .i .i64 x.N, .own 3 (x.Bids.map Vx)] := _root_.id rfl
instance (yxKind yxFindxThingxId yxFindxThingxKind yxFindxThingxColour yxFindxThingxSize yxFindxThingxWorth yxFindxPlace yxFindxAt yxFindxFinder yxId yxWho yxN) {R1 yxMarks R2 yxBids} [H1 : EncL Vf R1 yxMarks] [H2 : EncL Vx R2 yxBids] : EncR Qc6 [.i .i64 yxKind, .i .i64 yxFindxThingxId, .i .i64 yxFindxThingxKind, .i .i64 yxFindxThingxColour, .i .i64 yxFindxThingxSize, .i .i64 yxFindxThingxWorth, .i .i64 yxFindxPlace, .i .i64 yxFindxAt, .i .i64 yxFindxFinder, .own 2 R1, .i .i64 yxId, .i .i64 yxWho, .i .i64 yxN, .own 3 R2] (⟨yxKind, ⟨⟨yxFindxThingxId, yxFindxThingxKind, yxFindxThingxColour, yxFindxThingxSize, yxFindxThingxWorth⟩, yxFindxPlace, yxFindxAt, yxFindxFinder⟩, yxMarks, yxId, yxWho, yxN, yxBids⟩ : Event) := ⟨by obtain ⟨rfl⟩ := H1; obtain ⟨rfl⟩ := H2; rfl⟩
theorem QzP (xs : List Event) : QE (xs.map Qc6) = xs.map XB := Qbz (fun x => by simp only [QlI, QrY, VE, Xe, Qy4, Qqv]) xs
theorem Qyx (xs : List Event) : Qs (xs.map Qc6) = true := ZT (fun x => by simp only [QlI, X6, AV.clean, Bool.and_self, QAf, Qrj]) xs
theorem Qx9 (x : Event) : (⟨x.Kind, x.Find, x.Marks, x.Id, x.Who, x.N, x.Bids⟩ : Event) = x := _root_.id rfl
def Qje (x : Share) : List AV := [.i .i64 x.Who, .i .i64 x.Cents]
theorem Qn9 (x : Share) : Qje x = [.i .i64 x.Who, .i .i64 x.Cents] := _root_.id rfl
instance (yxWho yxCents)  : EncR Qje [.i .i64 yxWho, .i .i64 yxCents] (⟨yxWho, yxCents⟩ : Share) := ⟨by rfl⟩
theorem Qza (xs : List Share) : QE (xs.map Qje) = xs.map Qje := Qbz (fun x => by simp only [Qn9, VE, Xe]) xs
theorem Qyw (xs : List Share) : Qs (xs.map Qje) = true := ZT (fun x => by simp only [Qn9, X6, AV.clean, Bool.and_self]) xs
theorem Qyp (x : Share) : (⟨x.Who, x.Cents⟩ : Share) = x := _root_.id rfl
def QLb := aI @Qnj <| aI @QGz <| aI @QGR <| aI @QGy <| aI @QGh <| aI @QHJ <| aI @QqL <| aI @QO4 <| aI @QIp <| aI @QPV <| aI @QMj <| aI @QNV <| aI @Qu6 <| aI @QT7 <| aI @QRb <| aI @QUq <| aI @QR3 <| aI @QQn <| aI @QuQ <| aI @QRG <| aI @QSV <| aI @QRo <| aI @QTW <| aI @QUk <| aI @Qn1 <| aI @QyV <| aI @Qxz <| aI @Qz3 <| aI @QqM <| aI @Qvv <| aI @Qno <| aI @QCN <| aI @QqR <| aI @Qqv <| aI @Qrj <| aI @QEh <| aI @Qqd <| aI @QpO <| aI @QhP <| aI @Qv2 <| aI @Qjg <| aI @QoQ <| aI @Qsb <| aI @Qkg <| aI @Qy7 <| aI @QnD <| aI @QsW <| aI @Qj0 <| aI @QzN <| aI @QrD <| aI @QuU <| aI @QuK <| aI @QBW <| aI @Qrk <| aI @QuR <| aI @Qu7 <| aI @QBb <| aI @Qo7 <| aI @QsX <| aI @Qsq <| aI @QxW <| aI @Qsz <| aI @QwT <| aI @QyP <| aI @Qx1 <| aI @Qlf <| aI @Qqy <| aI @Qy4 <| aI @QAf <| aI @QHs <| aI @QHZ <| aI @QrY <| aI @QzP <| aI @Qyx <| aI @Qx9 <| aI @QlI <| aI @Qn9 <| aI @Qza <| aI @Qyw @Qyp
theorem tys : flT Tryz.prog 160 = false ∧ flT Tryz.prog 86 = false ∧ Qfq Tryz.prog 24 = true ∧ Qfq Tryz.prog 26 = true ∧ Qfq Tryz.prog 27 = true ∧ Qfq Tryz.prog 28 = true ∧ Qfq Tryz.prog 29 = true ∧ Qfq Tryz.prog 30 = true ∧ Qfq Tryz.prog 68 = true ∧ Qfq Tryz.prog 76 = true ∧ slz Tryz.prog 9 160 = [0, 2, 0] ∧ slz Tryz.prog 9 86 = [0, 0, 0, 0, 0, 0, 0, 0, 0, 2, 0, 0, 0, 3] ∧ Qfb Tryz.prog 175 = [0, 0] ∧ Qfb Tryz.prog 215 = [0] ∧ Qfb Tryz.prog 237 = [0] ∧ Qfb Tryz.prog 24 = [0, 0, 0, 0, 0, 0, 0, 0] ∧ Qfb Tryz.prog 25 = [0, 2, 0] ∧ Qfb Tryz.prog 26 = [0, 0, 0] ∧ Qfb Tryz.prog 27 = [0, 0, 0, 0, 0] ∧ Qfb Tryz.prog 28 = [0, 0, 0, 0] ∧ Qfb Tryz.prog 29 = [0, 0, 0, 0, 0] ∧ Qfb Tryz.prog 30 = [0, 0, 0, 0] ∧ Qfb Tryz.prog 68 = [0, 0] ∧ Qfb Tryz.prog 76 = [0, 0, 0] ∧ Qfb Tryz.prog 94 = [0, 0, 0, 0, 0, 0, 0, 0, 0, 2, 0, 0, 0, 3] ∧ tb Tryz.prog 103 = some 24 ∧ tb Tryz.prog 136 = some 40 ∧ tb Tryz.prog 139 = some 32 ∧ tb Tryz.prog 153 = some 32 ∧ tb Tryz.prog 160 = some 40 ∧ tb Tryz.prog 166 = some 40 ∧ tb Tryz.prog 169 = some 16 ∧ tb Tryz.prog 180 = some 24 ∧ tb Tryz.prog 3 = some 8 ∧ tb Tryz.prog 66 = some 64 ∧ tb Tryz.prog 86 = some 144 ∧ tbd Tryz.prog 136 = .st [.i .i64 0, .i .i64 0, .i .i64 0, .i .i64 0, .i .i64 0] [(0, 1), (1, 1), (2, 1), (3, 1), (4, 1)] ∧ tbd Tryz.prog 139 = .st [.i .i64 0, .i .i64 0, .i .i64 0, .i .i64 0] [(0, 1), (1, 1), (2, 1), (3, 1)] ∧ tbd Tryz.prog 153 = .st [.i .i64 0, .i .i64 0, .i .i64 0, .i .i64 0] [(0, 1), (1, 1), (2, 1), (3, 1)] ∧ tbd Tryz.prog 160 = .st [.i .i64 0, .nil, .i .i64 0] [(0, 1), (1, 1), (2, 1)] ∧ tbd Tryz.prog 166 = .st [.i .i64 0, .i .i64 0, .i .i64 0, .i .i64 0, .i .i64 0] [(0, 1), (1, 1), (2, 1), (3, 1), (4, 1)] ∧ tbd Tryz.prog 178 = .st [.i .i64 0, .i .i64 0] [(0, 1), (1, 1)] ∧ tbd Tryz.prog 32 = .st [.i .i64 0, .nil, .nil, .nil, .nil, .nil, .nil, .nil, .i .i64 0] [(0, 1), (1, 1), (2, 1), (3, 1), (4, 1), (5, 1), (6, 1), (7, 1), (8, 1)] ∧ tbd Tryz.prog 66 = .st [.i .i64 0, .i .i64 0, .i .i64 0, .i .i64 0, .i .i64 0, .i .i64 0, .i .i64 0, .i .i64 0] [(0, 5), (5, 1), (6, 1), (7, 1)] ∧ Qmr Tryz.prog 4 = some [.t] ∧ tfo Tryz.prog 103 0 = some (0, .one) ∧ tfo Tryz.prog 103 1 = some (1, .one) ∧ tfo Tryz.prog 103 2 = some (2, .one) ∧ tfo Tryz.prog 105 0 = some (0, .one) ∧ tfo Tryz.prog 105 1 = some (1, .one) ∧ tfo Tryz.prog 105 2 = some (2, .one) ∧ tfo Tryz.prog 136 0 = some (0, .one) ∧ tfo Tryz.prog 136 1 = some (1, .one) ∧ tfo Tryz.prog 136 2 = some (2, .one) ∧ tfo Tryz.prog 136 3 = some (3, .one) ∧ tfo Tryz.prog 136 4 = some (4, .one) ∧ tfo Tryz.prog 139 0 = some (0, .one) ∧ tfo Tryz.prog 139 1 = some (1, .one) ∧ tfo Tryz.prog 139 2 = some (2, .one) ∧ tfo Tryz.prog 139 3 = some (3, .one) ∧ tfo Tryz.prog 153 0 = some (0, .one) ∧ tfo Tryz.prog 153 1 = some (1, .one) ∧ tfo Tryz.prog 153 2 = some (2, .one) ∧ tfo Tryz.prog 153 3 = some (3, .one) ∧ tfo Tryz.prog 160 0 = some (0, .one) ∧ tfo Tryz.prog 160 1 = some (1, .one) ∧ tfo Tryz.prog 160 2 = some (2, .one) ∧ tfo Tryz.prog 166 0 = some (0, .one) ∧ tfo Tryz.prog 166 1 = some (1, .one) ∧ tfo Tryz.prog 166 2 = some (2, .one) ∧ tfo Tryz.prog 166 3 = some (3, .one) ∧ tfo Tryz.prog 166 4 = some (4, .one) ∧ tfo Tryz.prog 169 0 = some (0, .one) ∧ tfo Tryz.prog 169 1 = some (1, .one) ∧ tfo Tryz.prog 171 0 = some (0, .one) ∧ tfo Tryz.prog 171 1 = some (1, .one) ∧ tfo Tryz.prog 178 0 = some (0, .one) ∧ tfo Tryz.prog 178 1 = some (1, .one) ∧ tfo Tryz.prog 180 0 = some (0, .one) ∧ tfo Tryz.prog 180 1 = some (1, .one) ∧ tfo Tryz.prog 180 2 = some (2, .one) ∧ tfo Tryz.prog 182 0 = some (0, .one) ∧ tfo Tryz.prog 182 1 = some (1, .one) ∧ tfo Tryz.prog 182 2 = some (2, .one) ∧ tfo Tryz.prog 200 0 = some (0, .one) ∧ tfo Tryz.prog 200 1 = some (1, .one) ∧ tfo Tryz.prog 200 2 = some (2, .one) ∧ tfo Tryz.prog 203 0 = some (0, .one) ∧ tfo Tryz.prog 203 1 = some (1, .one) ∧ tfo Tryz.prog 203 2 = some (2, .one) ∧ tfo Tryz.prog 203 3 = some (3, .one) ∧ tfo Tryz.prog 203 4 = some (4, .one) ∧ tfo Tryz.prog 205 0 = some (0, .one) ∧ tfo Tryz.prog 205 1 = some (1, .one) ∧ tfo Tryz.prog 205 2 = some (2, .one) ∧ tfo Tryz.prog 205 3 = some (3, .one) ∧ tfo Tryz.prog 207 0 = some (0, .one) ∧ tfo Tryz.prog 207 1 = some (1, .one) ∧ tfo Tryz.prog 207 2 = some (2, .one) ∧ tfo Tryz.prog 207 3 = some (3, .one) ∧ tfo Tryz.prog 207 4 = some (4, .one) ∧ tfo Tryz.prog 209 0 = some (0, .one) ∧ tfo Tryz.prog 209 1 = some (1, .one) ∧ tfo Tryz.prog 209 2 = some (2, .one) ∧ tfo Tryz.prog 209 3 = some (3, .one) ∧ tfo Tryz.prog 32 0 = some (0, .one) ∧ tfo Tryz.prog 32 1 = some (1, .one) ∧ tfo Tryz.prog 32 2 = some (2, .one) ∧ tfo Tryz.prog 32 3 = some (3, .one) ∧ tfo Tryz.prog 32 4 = some (4, .one) ∧ tfo Tryz.prog 32 5 = some (5, .one) ∧ tfo Tryz.prog 32 6 = some (6, .one) ∧ tfo Tryz.prog 32 7 = some (7, .one) ∧ tfo Tryz.prog 32 8 = some (8, .one) ∧ tfo Tryz.prog 48 0 = some (0, .one) ∧ tfo Tryz.prog 48 1 = some (1, .one) ∧ tfo Tryz.prog 48 2 = some (2, .one) ∧ tfo Tryz.prog 48 3 = some (3, .one) ∧ tfo Tryz.prog 48 4 = some (4, .one) ∧ tfo Tryz.prog 48 5 = some (5, .one) ∧ tfo Tryz.prog 48 6 = some (6, .one) ∧ tfo Tryz.prog 48 7 = some (7, .one) ∧ tfo Tryz.prog 48 8 = some (8, .one) ∧ tfo Tryz.prog 58 0 = some (0, .one) ∧ tfo Tryz.prog 58 1 = some (1, .one) ∧ tfo Tryz.prog 58 2 = some (2, .one) ∧ tfo Tryz.prog 58 3 = some (3, .one) ∧ tfo Tryz.prog 58 4 = some (4, .one) ∧ tfo Tryz.prog 60 0 = some (0, .agg 5) ∧ tfo Tryz.prog 60 1 = some (5, .one) ∧ tfo Tryz.prog 60 2 = some (6, .one) ∧ tfo Tryz.prog 60 3 = some (7, .one) ∧ tfo Tryz.prog 64 0 = some (0, .one) ∧ tfo Tryz.prog 64 1 = some (1, .one) ∧ tfo Tryz.prog 64 2 = some (2, .one) ∧ tfo Tryz.prog 64 3 = some (3, .one) ∧ tfo Tryz.prog 64 4 = some (4, .one) ∧ tfo Tryz.prog 66 0 = some (0, .agg 5) ∧ tfo Tryz.prog 66 1 = some (5, .one) ∧ tfo Tryz.prog 66 2 = some (6, .one) ∧ tfo Tryz.prog 66 3 = some (7, .one) ∧ tfo Tryz.prog 82 0 = some (0, .one) ∧ tfo Tryz.prog 82 1 = some (1, .agg 8) ∧ tfo Tryz.prog 82 2 = some (9, .one) ∧ tfo Tryz.prog 82 3 = some (10, .one) ∧ tfo Tryz.prog 82 4 = some (11, .one) ∧ tfo Tryz.prog 82 5 = some (12, .one) ∧ tfo Tryz.prog 82 6 = some (13, .one) ∧ tfo Tryz.prog 86 0 = some (0, .one) ∧ tfo Tryz.prog 86 1 = some (1, .agg 8) ∧ tfo Tryz.prog 86 2 = some (9, .one) ∧ tfo Tryz.prog 86 3 = some (10, .one) ∧ tfo Tryz.prog 86 4 = some (11, .one) ∧ tfo Tryz.prog 86 5 = some (12, .one) ∧ tfo Tryz.prog 86 6 = some (13, .one) ∧ ti Tryz.prog 175 = .sl 178 2 ∧ ti Tryz.prog 215 = .sl 4 1 ∧ ti Tryz.prog 22 = .sl 105 3 ∧ ti Tryz.prog 237 = .sl 3 1 ∧ ti Tryz.prog 24 = .sl 66 8 ∧ ti Tryz.prog 25 = .sl 160 3 ∧ ti Tryz.prog 26 = .sl 103 3 ∧ ti Tryz.prog 27 = .sl 136 5 ∧ ti Tryz.prog 28 = .sl 139 4 ∧ ti Tryz.prog 29 = .sl 166 5 ∧ ti Tryz.prog 30 = .sl 153 4 ∧ ti Tryz.prog 41 = .sl 60 8 ∧ ti Tryz.prog 42 = .sl 200 3 ∧ ti Tryz.prog 43 = .sl 203 5 ∧ ti Tryz.prog 44 = .sl 205 4 ∧ ti Tryz.prog 45 = .sl 207 5 ∧ ti Tryz.prog 46 = .sl 209 4 ∧ ti Tryz.prog 61 = .sl 171 2 ∧ ti Tryz.prog 68 = .sl 169 2 ∧ ti Tryz.prog 73 = .sl 182 3 ∧ ti Tryz.prog 76 = .sl 180 3 ∧ ti Tryz.prog 91 = .sl 82 14 ∧ ti Tryz.prog 94 = .sl 86 14 ∧ tk Tryz.prog 103 = .agg 3 ∧ tk Tryz.prog 105 = .agg 3 ∧ tk Tryz.prog 136 = .agg 5 ∧ tk Tryz.prog 139 = .agg 4 ∧ tk Tryz.prog 153 = .agg 4 ∧ tk Tryz.prog 160 = .agg 3 ∧ tk Tryz.prog 166 = .agg 5 ∧ tk Tryz.prog 169 = .agg 2 ∧ tk Tryz.prog 171 = .agg 2 ∧ tk Tryz.prog 180 = .agg 3 ∧ tk Tryz.prog 182 = .agg 3 ∧ tk Tryz.prog 200 = .agg 3 ∧ tk Tryz.prog 203 = .agg 5 ∧ tk Tryz.prog 205 = .agg 4 ∧ tk Tryz.prog 207 = .agg 5 ∧ tk Tryz.prog 209 = .agg 4 ∧ tk Tryz.prog 22 = .one ∧ tk Tryz.prog 24 = .one ∧ tk Tryz.prog 25 = .one ∧ tk Tryz.prog 26 = .one ∧ tk Tryz.prog 27 = .one ∧ tk Tryz.prog 28 = .one ∧ tk Tryz.prog 29 = .one ∧ tk Tryz.prog 3 = .one ∧ tk Tryz.prog 30 = .one ∧ tk Tryz.prog 32 = .agg 9 ∧ tk Tryz.prog 4 = .one ∧ tk Tryz.prog 41 = .one ∧ tk Tryz.prog 42 = .one ∧ tk Tryz.prog 43 = .one ∧ tk Tryz.prog 44 = .one ∧ tk Tryz.prog 45 = .one ∧ tk Tryz.prog 46 = .one ∧ tk Tryz.prog 48 = .agg 9 ∧ tk Tryz.prog 58 = .agg 5 ∧ tk Tryz.prog 60 = .agg 8 ∧ tk Tryz.prog 61 = .one ∧ tk Tryz.prog 64 = .agg 5 ∧ tk Tryz.prog 66 = .agg 8 ∧ tk Tryz.prog 68 = .one ∧ tk Tryz.prog 73 = .one ∧ tk Tryz.prog 76 = .one ∧ tk Tryz.prog 82 = .agg 14 ∧ tk Tryz.prog 86 = .agg 14 ∧ QbK Tryz.prog 237 = true ∧ QbK Tryz.prog 24 = true ∧ QbK Tryz.prog 25 = true ∧ QbK Tryz.prog 26 = true ∧ QbK Tryz.prog 27 = true ∧ QbK Tryz.prog 28 = true ∧ QbK Tryz.prog 29 = true ∧ QbK Tryz.prog 30 = true ∧ QbK Tryz.prog 68 = true ∧ QbK Tryz.prog 76 = true ∧ tse Tryz.prog 175 = some (178, 2, [.i .i64 0, .i .i64 0]) ∧ tse Tryz.prog 215 = some (4, 1, [.b false]) ∧ tse Tryz.prog 237 = some (3, 1, [.i .i64 0]) ∧ tse Tryz.prog 24 = some (66, 8, [.i .i64 0, .i .i64 0, .i .i64 0, .i .i64 0, .i .i64 0, .i .i64 0, .i .i64 0, .i .i64 0]) ∧ tse Tryz.prog 25 = some (160, 3, [.i .i64 0, .nil, .i .i64 0]) ∧ tse Tryz.prog 26 = some (103, 3, [.i .i64 0, .i .i64 0, .i .i64 0]) ∧ tse Tryz.prog 27 = some (136, 5, [.i .i64 0, .i .i64 0, .i .i64 0, .i .i64 0, .i .i64 0]) ∧ tse Tryz.prog 28 = some (139, 4, [.i .i64 0, .i .i64 0, .i .i64 0, .i .i64 0]) ∧ tse Tryz.prog 29 = some (166, 5, [.i .i64 0, .i .i64 0, .i .i64 0, .i .i64 0, .i .i64 0]) ∧ tse Tryz.prog 30 = some (153, 4, [.i .i64 0, .i .i64 0, .i .i64 0, .i .i64 0]) ∧ tse Tryz.prog 68 = some (169, 2, [.i .i64 0, .i .i64 0]) ∧ tse Tryz.prog 76 = some (180, 3, [.i .i64 0, .i .i64 0, .i .i64 0]) ∧ tse Tryz.prog 94 = some (86, 14, [.i .i64 0, .i .i64 0, .i .i64 0, .i .i64 0, .i .i64 0, .i .i64 0, .i .i64 0, .i .i64 0, .i .i64 0, .nil, .i .i64 0, .i .i64 0, .i .i64 0, .nil]) ∧ tzc Tryz.prog 103 = some [.i .i64 0, .i .i64 0, .i .i64 0] ∧ tzc Tryz.prog 136 = some [.i .i64 0, .i .i64 0, .i .i64 0, .i .i64 0, .i .i64 0] ∧ tzc Tryz.prog 139 = some [.i .i64 0, .i .i64 0, .i .i64 0, .i .i64 0] ∧ tzc Tryz.prog 153 = some [.i .i64 0, .i .i64 0, .i .i64 0, .i .i64 0] ∧ tzc Tryz.prog 160 = some [.i .i64 0, .nil, .i .i64 0] ∧ tzc Tryz.prog 166 = some [.i .i64 0, .i .i64 0, .i .i64 0, .i .i64 0, .i .i64 0] ∧ tzc Tryz.prog 169 = some [.i .i64 0, .i .i64 0] ∧ tzc Tryz.prog 180 = some [.i .i64 0, .i .i64 0, .i .i64 0] ∧ tzc Tryz.prog 32 = some [.i .i64 0, .nil, .nil, .nil, .nil, .nil, .nil, .nil, .i .i64 0] ∧ tzc Tryz.prog 64 = some [.i .i64 0, .i .i64 0, .i .i64 0, .i .i64 0, .i .i64 0] ∧ tzc Tryz.prog 66 = some [.i .i64 0, .i .i64 0, .i .i64 0, .i .i64 0, .i .i64 0, .i .i64 0, .i .i64 0, .i .i64 0] ∧ tzc Tryz.prog 86 = some [.i .i64 0, .i .i64 0, .i .i64 0, .i .i64 0, .i .i64 0, .i .i64 0, .i .i64 0, .i .i64 0, .i .i64 0, .nil, .i .i64 0, .i .i64 0, .i .i64 0, .nil] := by and_intros <;> kernel_rfl
def mt (g : Nat) (K : KS) (args : List AV) : Option AV := mtI [(115, (4, 32)), (201, (5, 40)), (218, (8, 64)), (219, (3, 40))] g K args
def n12 : Ann := { ac := [(19, 0), (20, 0), (24, 0)], jn := [(21, (63, 56, 63))] }
def n13 : Ann := {}
def n15 : Ann := { lp := [(3, ⟨[0, 3, 4], [.s 3 3], [3], [.s 3 3]⟩)], sh := [.z 3] }
def n17 : Ann := {}
def n18 : Ann := { lp := [(4, ⟨[0, 1, 5], [], [], []⟩)], rt := ⟨[4], [], [], []⟩ }
def n19 : Ann := { ak := [0], lp := [(2, ⟨[0, 1, 5], [.s 0 3], [0, 1], [.s 0 3]⟩)] }
def n20 : Ann := { ak := [0, 1, 2, 3, 4, 5, 6], ac := [(1, 0), (2, 0), (3, 0), (4, 0), (5, 0), (6, 0), (7, 0)] }
def n21 : Ann := {}
def n22 : Ann := {}
def n23 : Ann := { av := [(5, [92])], jn := [(2, (17, 9, 17))], sh := [.a [0, 8, 3, 3, 5, 4, 5, 4, 0], .n] }
def n24 : Ann := { sh := [.a [0, 8, 3, 3, 5, 4, 5, 4, 0]] }
def n25 : Ann := { av := [(3, [100])], sh := [.a [0, 8, 3, 3, 5, 4, 5, 4, 0], .n] }
def n26 : Ann := { av := [(13, [92])], jn := [(3, (34, 19, 34))], sh := [.a [0, 8, 3, 3, 5, 4, 5, 4, 0], .n] }
def n27 : Ann := { av := [(12, [100])], jn := [(3, (33, 18, 33))], sh := [.a [0, 8, 3, 3, 5, 4, 5, 4, 0], .n] }
def n28 : Ann := { ot := [(7, .one 0 (.one 1 (.one 2 (.one 3 (.one 4 (.one 6 (.one 7 (.one 12 (.alt (.one 5 (.alt (.one 8 (.alt (.one 9 (.one 10 (.one 11 (.one 13 (.one 14 (.one 15 (.one 16 (.done)))))))) (.one 10 (.alt (.one 9 (.one 11 (.one 13 (.one 14 (.one 15 (.one 16 (.done))))))) (.one 11 (.one 13 (.one 9 (.one 14 (.one 15 (.one 16 (.done))))))))))) (.one 10 (.alt (.one 8 (.alt (.one 9 (.one 11 (.one 13 (.one 14 (.one 15 (.one 16 (.done))))))) (.one 11 (.one 13 (.one 9 (.one 14 (.one 15 (.one 16 (.done))))))))) (.one 11 (.one 13 (.one 8 (.one 9 (.one 14 (.one 15 (.one 16 (.done)))))))))))) (.alt (.one 8 (.alt (.one 5 (.alt (.one 9 (.one 10 (.one 11 (.one 13 (.one 14 (.one 15 (.one 16 (.done)))))))) (.one 10 (.alt (.one 9 (.one 11 (.one 13 (.one 14 (.one 15 (.one 16 (.done))))))) (.one 11 (.one 13 (.one 9 (.one 14 (.one 15 (.one 16 (.done))))))))))) (.one 10 (.alt (.one 5 (.alt (.one 9 (.one 11 (.one 13 (.one 14 (.one 15 (.one 16 (.done))))))) (.one 11 (.one 13 (.one 9 (.one 14 (.one 15 (.one 16 (.done))))))))) (.one 11 (.one 13 (.one 5 (.one 9 (.one 14 (.one 15 (.one 16 (.done)))))))))))) (.one 10 (.alt (.one 5 (.alt (.one 8 (.alt (.one 9 (.one 11 (.one 13 (.one 14 (.one 15 (.one 16 (.done))))))) (.one 11 (.one 13 (.one 9 (.one 14 (.one 15 (.one 16 (.done))))))))) (.one 11 (.one 13 (.one 8 (.one 9 (.one 14 (.one 15 (.one 16 (.done)))))))))) (.alt (.one 8 (.alt (.one 5 (.alt (.one 9 (.one 11 (.one 13 (.one 14 (.one 15 (.one 16 (.done))))))) (.one 11 (.one 13 (.one 9 (.one 14 (.one 15 (.one 16 (.done))))))))) (.one 11 (.one 13 (.one 5 (.one 9 (.one 14 (.one 15 (.one 16 (.done)))))))))) (.one 11 (.one 13 (.alt (.one 5 (.one 8 (.one 9 (.one 14 (.one 15 (.one 16 (.done))))))) (.one 8 (.one 5 (.one 9 (.one 14 (.one 15 (.one 16 (.done)))))))))))))))))))))))], eb := [(7, [47])], av := [(8, [92])], jn := [(5, (44, 30, 44))], lp := [(5, ⟨[1, 3, 4, 8, 10, 12, 13], [.s 4 0, .s 8 0, .s 10 0, .c 2 1 8, .c 2 2 3, .c 2 3 3, .c 2 4 5, .c 2 5 4, .c 2 6 5, .c 2 7 4], [1, 3, 4, 8, 10, 12, 13], [.s 4 0, .s 8 0, .s 10 0, .c 2 1 8, .c 2 2 3, .c 2 3 3, .c 2 4 5, .c 2 5 4, .c 2 6 5, .c 2 7 4]⟩)], sh := [.a [0, 8, 3, 3, 5, 4, 5, 4, 0], .n] }
def n29 : Ann := { ot := [(5, .one 0 (.one 1 (.one 2 (.one 3 (.one 4 (.one 6 (.one 7 (.alt (.one 5 (.one 8 (.one 9 (.one 10 (.one 11 (.done)))))) (.one 8 (.one 5 (.one 9 (.one 10 (.one 11 (.done))))))))))))))], av := [(5, [115]), (6, [100])], jn := [(3, (40, 27, 40))], sh := [.a [0, 8, 3, 3, 5, 4, 5, 4, 0], .n] }
def n30 : Ann := { ot := [(9, .one 0 (.one 1 (.one 2 (.one 3 (.one 4 (.one 5 (.one 6 (.one 7 (.one 8 (.one 9 (.one 10 (.one 11 (.one 12 (.one 13 (.one 14 (.one 15 (.one 16 (.one 17 (.alt (.one 18 (.alt (.one 19 (.one 20 (.one 21 (.one 22 (.one 23 (.one 24 (.one 25 (.done)))))))) (.one 23 (.one 19 (.one 20 (.one 21 (.one 22 (.one 24 (.one 25 (.done)))))))))) (.one 23 (.one 18 (.one 19 (.one 20 (.one 21 (.one 22 (.one 24 (.one 25 (.done))))))))))))))))))))))))))))], av := [(9, [120]), (10, [92])], jn := [(3, (33, 23, 33))], sh := [.a [0, 8, 3, 3, 5, 4, 5, 4, 0], .n] }
def n31 : Ann := { av := [(12, [100])], jn := [(3, (30, 25, 30))], sh := [.a [0, 8, 3, 3, 5, 4, 5, 4, 0], .n] }
def n32 : Ann := { ot := [(6, .one 0 (.one 1 (.one 2 (.one 3 (.one 4 (.one 5 (.one 6 (.one 7 (.alt (.one 8 (.one 9 (.one 10 (.one 11 (.one 12 (.one 13 (.one 14 (.done)))))))) (.one 12 (.one 8 (.one 9 (.one 10 (.one 11 (.one 13 (.one 14 (.done)))))))))))))))))], av := [(7, [92]), (11, [92])], jn := [(2, (21, 15, 21))], sh := [.a [0, 8, 3, 3, 5, 4, 5, 4, 0], .n] }
def n33 : Ann := { av := [(11, [100])], sh := [.a [0, 8, 3, 3, 5, 4, 5, 4, 0], .n] }
def n34 : Ann := {}
def n35 : Ann := { av := [(10, [92])], sh := [.a [0, 8, 3, 3, 5, 4, 5, 4, 0], .n] }
def n36 : Ann := {}
def n37 : Ann := { lp := [(3, ⟨[0, 3, 4], [.s 3 2], [3], [.s 3 2]⟩)], sh := [.z 2] }
def n38 : Ann := { av := [(6, [100])], sh := [.a [0, 8, 3, 3, 5, 4, 5, 4, 0], .n] }
def n39 : Ann := { lp := [(4, ⟨[0, 1, 5], [], [], []⟩)], rt := ⟨[4], [], [], []⟩ }
def n40 : Ann := { ak := [0], lp := [(2, ⟨[0, 1, 5], [.s 0 2], [0, 1], [.s 0 2]⟩)] }
def n41 : Ann := {}
def n42 : Ann := { ot := [(9, .one 0 (.one 1 (.one 2 (.one 3 (.one 4 (.one 5 (.one 6 (.one 7 (.one 8 (.alt (.one 9 (.one 10 (.one 11 (.one 12 (.one 13 (.one 14 (.one 15 (.done)))))))) (.one 13 (.one 9 (.one 10 (.one 11 (.one 12 (.one 14 (.one 15 (.done))))))))))))))))))], av := [(6, [120]), (9, [120]), (10, [92]), (11, [92])], jn := [(3, (50, 27, 50))], sh := [.a [0, 8, 3, 3, 5, 4, 5, 4, 0], .n] }
def n43 : Ann := { lp := [(3, ⟨[0, 3, 4], [.s 3 3], [3], [.s 3 3]⟩)], sh := [.z 3] }
def n44 : Ann := { av := [(11, [100])], jn := [(3, (42, 28, 42)), (9, (80, 68, 80))], sh := [.a [0, 8, 3, 3, 5, 4, 5, 4, 0], .n] }
def n45 : Ann := { lp := [(4, ⟨[0, 1, 5], [], [], []⟩)], rt := ⟨[4], [], [], []⟩ }
def n46 : Ann := { ak := [0], lp := [(2, ⟨[0, 1, 5], [.s 0 3], [0, 1], [.s 0 3]⟩)] }
def n47 : Ann := {}
def n48 : Ann := { sh := [.a [0, 8, 3, 3, 5, 4, 5, 4, 0], .n] }
def n49 : Ann := { sh := [.a [0, 0, 0, 0, 0, 0, 0, 0, 0, 2, 0, 0, 0, 3]] }
def n50 : Ann := { sh := [.a [0, 8, 3, 3, 5, 4, 5, 4, 0], .n] }
def n51 : Ann := {}
def n53 : Ann := { lp := [(5, ⟨[0, 1, 5], [], [1], []⟩)], rt := ⟨[4], [], [], []⟩ }
def n54 : Ann := { lp := [(3, ⟨[1, 4, 5, 6], [.s 4 0, .s 5 0, .c 1 1 8, .c 1 2 3, .c 1 3 3, .c 1 4 5, .c 1 5 4, .c 1 6 5, .c 1 7 4], [4, 5], [.s 4 0, .s 5 0, .c 1 1 8, .c 1 2 3, .c 1 3 3, .c 1 4 5, .c 1 5 4, .c 1 6 5, .c 1 7 4]⟩)], sh := [.a [0, 8, 3, 3, 5, 4, 5, 4, 0]] }
def n55 : Ann := { lp := [(3, ⟨[0, 3, 4], [.s 3 14], [3], [.s 3 14]⟩)], sh := [.z 14] }
def n56 : Ann := { lp := [(3, ⟨[4, 5, 10, 11, 12], [.s 4 0, .s 5 0, .c 1 1 8, .c 1 2 3, .c 1 3 3, .c 1 4 5, .c 1 5 4, .c 1 6 5, .c 1 7 4], [4, 5], [.s 4 0, .s 5 0, .c 1 1 8, .c 1 2 3, .c 1 3 3, .c 1 4 5, .c 1 5 4, .c 1 6 5, .c 1 7 4]⟩)], sh := [.a [0, 8, 3, 3, 5, 4, 5, 4, 0]] }
def n57 : Ann := { lp := [(4, ⟨[0, 1, 5], [], [], []⟩)], rt := ⟨[4], [], [], []⟩ }
def n58 : Ann := { an := [(22, [0, 0, 0, 0]), (29, [0, 0, 0, 0])], ak := [0], lp := [(2, ⟨[0, 1, 5], [.s 0 14], [0, 1], [.s 0 14]⟩)] }
def n59 : Ann := { ord := [(1, [0, 1, 2, 3, 4, 6, 7, 9, 10, 11, 13, 14, 15, 17, 18, 19, 21, 22, 23, 25, 26, 27, 29, 30, 5, 8, 12, 16, 20, 24, 28, 31, 32])], eb := [(1, [5, 12, 16, 20, 24, 28])], sh := [.a [0, 8, 3, 3, 5, 4, 5, 4, 0]] }
def n60 : Ann := { jn := [(1, (48, 3, 48)), (3, (86, 49, 86)), (5, (2, 87, 93))] }
def n62 : Ann := {}
def n63 : Ann := { sh := [.z 3] }
def n64 : Ann := { ord := [(1, [0, 1, 2, 3, 4, 5, 6, 7, 8, 9, 10, 11, 12, 13, 14, 15, 16, 17, 18, 19, 20, 21, 22, 23, 24, 25, 26, 27, 28, 29, 30, 31, 32, 33, 34, 35, 36, 37, 38, 39, 40, 41, 42, 44, 45, 43, 46, 47, 48, 49, 50, 51, 52, 53])], jn := [(1, (2, 3, 56))] }
def n65 : Ann := { lp := [(4, ⟨[0, 1, 5], [], [], []⟩)], rt := ⟨[4], [], [], []⟩ }
def n66 : Ann := { lp := [(4, ⟨[0, 1, 5], [], [], []⟩)], rt := ⟨[4], [], [], []⟩ }
def n67 : Ann := { lp := [(4, ⟨[0, 1, 5], [], [], []⟩)], rt := ⟨[4], [], [], []⟩ }
def n68 : Ann := { lp := [(4, ⟨[0, 1, 5], [], [], []⟩)], rt := ⟨[4], [], [], []⟩ }
def n69 : Ann := { lp := [(4, ⟨[0, 1, 5], [], [], []⟩)], rt := ⟨[4], [], [], []⟩ }
def n70 : Ann := { lp := [(4, ⟨[0, 1, 5], [], [], []⟩)], rt := ⟨[4], [], [], []⟩ }
def n71 : Ann := {}
def n72 : Ann := { ak := [0], lp := [(2, ⟨[0, 1, 5], [.s 0 8], [0, 1], [.s 0 8]⟩)] }
def n73 : Ann := { an := [(6, [0, 0, 0, 0])], ak := [0], lp := [(2, ⟨[0, 1, 5], [.s 0 3], [0, 1], [.s 0 3]⟩)] }
def n74 : Ann := { ak := [0], lp := [(2, ⟨[0, 1, 5], [.s 0 5], [0, 1], [.s 0 5]⟩)] }
def n75 : Ann := { ak := [0], lp := [(2, ⟨[0, 1, 5], [.s 0 4], [0, 1], [.s 0 4]⟩)] }
def n76 : Ann := { ak := [0], lp := [(2, ⟨[0, 1, 5], [.s 0 5], [0, 1], [.s 0 5]⟩)] }
def n77 : Ann := { ak := [0], lp := [(2, ⟨[0, 1, 5], [.s 0 4], [0, 1], [.s 0 4]⟩)] }
def n78 : Ann := { lp := [(2, ⟨[0, 1, 5], [], [1], []⟩)], rt := ⟨[4], [], [], []⟩ }
def n79 : Ann := { lp := [(2, ⟨[0, 1, 5], [], [1], []⟩)], rt := ⟨[4], [], [], []⟩ }
def n80 : Ann := { lp := [(2, ⟨[0, 1, 5], [], [1], []⟩)], rt := ⟨[4], [], [], []⟩ }
def n81 : Ann := { lp := [(2, ⟨[0, 1, 5], [], [1], []⟩)], rt := ⟨[4], [], [], []⟩ }
def n82 : Ann := { lp := [(2, ⟨[0, 1, 5], [], [1], []⟩)], rt := ⟨[4], [], [], []⟩ }
def n83 : Ann := { lp := [(2, ⟨[0, 1, 5], [], [1], []⟩)], rt := ⟨[4], [], [], []⟩ }
def n84 : Ann := { lp := [(2, ⟨[0, 1, 5], [], [1], []⟩)], rt := ⟨[4], [], [], []⟩ }
def n85 : Ann := {}
def n86 : Ann := { lp := [(5, ⟨[0, 1, 5], [], [1], []⟩)], rt := ⟨[4], [], [], []⟩ }
def n87 : Ann := {}
def n88 : Ann := {}
def n89 : Ann := {}
def n90 : Ann := {}
def n91 : Ann := { jn := [(1, (6, 7, 15))] }
def n92 : Ann := { jn := [(1, (19, 8, 19))], sh := [.a [0, 8, 3, 3, 5, 4, 5, 4, 0], .n] }
def n93 : Ann := { lp := [(3, ⟨[0, 3, 4], [.s 3 8], [3], [.s 3 8]⟩)], sh := [.z 8] }
def n94 : Ann := { lp := [(3, ⟨[0, 3, 4], [.s 3 3], [3], [.s 3 3]⟩)], sh := [.z 3] }
def n95 : Ann := { lp := [(3, ⟨[0, 3, 4], [.s 3 5], [3], [.s 3 5]⟩)], sh := [.z 5] }
def n96 : Ann := { lp := [(3, ⟨[0, 3, 4], [.s 3 4], [3], [.s 3 4]⟩)], sh := [.z 4] }
def n97 : Ann := { lp := [(3, ⟨[0, 3, 4], [.s 3 5], [3], [.s 3 5]⟩)], sh := [.z 5] }
def n98 : Ann := { lp := [(3, ⟨[0, 3, 4], [.s 3 4], [3], [.s 3 4]⟩)], sh := [.z 4] }
def n99 : Ann := { ord := [(1, [0, 1, 3, 4, 6, 7, 9, 10, 2, 12, 5, 8, 11, 13, 14, 15, 16, 17, 18, 19]), (2, [0, 1, 3, 4, 6, 7, 2, 9, 5, 8, 10, 11, 12, 13, 14])], sh := [.a [0, 8, 3, 3, 5, 4, 5, 4, 0]] }
def Qv7 : Ann := { jn := [(1, (19, 8, 19))], sh := [.a [0, 8, 3, 3, 5, 4, 5, 4, 0], .n] }
def QBe : Ann := { jn := [(1, (6, 7, 15))] }
def QwW : Ann := { lp := [(2, ⟨[0, 1, 5], [], [], []⟩)], rt := ⟨[4], [], [], []⟩ }
def QAp : Ann := { sh := [.z 2] }
def QBp : Ann := {}
def QCy : Ann := { jn := [(1, (5, 6, 19)), (3, (19, 20, 30))] }
def QDN : Ann := {}
def QBw : Ann := { sh := [.z 2] }
def QB9 : Ann := {}
def QBU : Ann := { jn := [(1, (5, 6, 19)), (3, (19, 20, 30))] }
def QCq : Ann := { jn := [(3, (22, 16, 22)), (6, (47, 29, 47))], sh := [.z 5, .n] }
def QAe : Ann := { ot := [(9, .one 1 (.one 2 (.one 3 (.one 8 (.one 9 (.one 10 (.alt (.one 0 (.alt (.one 4 (.one 5 (.one 6 (.one 7 (.one 11 (.one 12 (.done))))))) (.one 5 (.alt (.one 4 (.one 6 (.one 7 (.one 11 (.one 12 (.done)))))) (.one 6 (.one 4 (.one 7 (.one 11 (.one 12 (.done)))))))))) (.one 5 (.alt (.one 0 (.alt (.one 4 (.one 6 (.one 7 (.one 11 (.one 12 (.done)))))) (.one 6 (.one 4 (.one 7 (.one 11 (.one 12 (.done)))))))) (.one 6 (.one 0 (.one 4 (.one 7 (.one 11 (.one 12 (.done))))))))))))))))], jn := [(6, (7, 19, 40)), (10, (67, 62, 67))], lp := [(4, ⟨[0, 3, 6, 7, 8], [.s 3 0], [0, 3, 6, 7], [.s 3 0]⟩)], sh := [.z 5, .n] }
def Qyb : Ann := { jn := [(4, (22, 12, 22))], lp := [(2, ⟨[0, 1, 5], [], [], []⟩)], rt := ⟨[4], [], [], []⟩ }
def QzA : Ann := { av := [(7, [201])], jn := [(2, (24, 10, 24)), (5, (39, 26, 39))], lp := [(5, ⟨[0, 3, 6, 7], [.s 3 0, .s 6 5], [0, 3, 6, 7], [.s 3 0, .s 6 5]⟩)], sh := [.z 5, .n] }
def QA4 : Ann := {}
def Qxd : Ann := { jn := [(5, (44, 13, 44))], lp := [(3, ⟨[0, 1, 5, 6], [], [0, 5], []⟩)] }
def Qw5 : Ann := { lp := [(2, ⟨[0, 1, 5], [], [], []⟩)], rt := ⟨[4], [], [], []⟩ }
def QDy : Ann := { sh := [.a [0, 8, 3, 3, 5, 4, 5, 4, 0], .n] }
def QCM : Ann := { jn := [(3, (24, 18, 24)), (6, (11, 31, 49)), (8, (60, 54, 60))], sh := [.z 5, .n] }
def QDU : Ann := { sh := [.a [0, 8, 3, 3, 5, 4, 5, 4, 0], .n] }
def QDe : Ann := { jn := [(1, (12, 5, 12))] }
def QAQ : Ann := { jn := [(2, (24, 11, 24))] }
def Qzs : Ann := { jn := [(6, (35, 16, 35))], lp := [(4, ⟨[1, 5, 6, 10, 11, 12], [.s 5 0], [5], [.s 5 0]⟩)] }
def QBh : Ann := { sh := [.a [0, 8, 3, 3, 5, 4, 5, 4, 0], .n] }
def QDs : Ann := { jn := [(1, (12, 5, 12))] }
def QCz : Ann := { ot := [(1, .one 0 (.one 2 (.alt (.one 1 (.one 3 (.one 4 (.one 5 (.done))))) (.one 3 (.one 1 (.one 4 (.one 5 (.done))))))))], sh := [.z 4, .n] }
def Qzy : Ann := { jn := [(6, (36, 20, 36)), (10, (42, 43, 53))], lp := [(4, ⟨[1, 2, 3, 7], [.s 3 0], [2, 3], [.s 3 0]⟩)], rt := ⟨[6], [], [], []⟩ }
def QB5 : Ann := { jn := [(4, (16, 17, 26)), (6, (26, 27, 35)), (8, (35, 36, 44))] }
def QzY : Ann := { ot := [(4, .one 1 (.one 2 (.one 3 (.one 8 (.one 9 (.one 10 (.alt (.one 0 (.alt (.one 4 (.one 5 (.one 6 (.one 7 (.one 11 (.one 12 (.done))))))) (.one 5 (.alt (.one 4 (.one 6 (.one 7 (.one 11 (.one 12 (.done)))))) (.one 6 (.one 4 (.one 7 (.one 11 (.one 12 (.done)))))))))) (.one 5 (.alt (.one 0 (.alt (.one 4 (.one 6 (.one 7 (.one 11 (.one 12 (.done)))))) (.one 6 (.one 4 (.one 7 (.one 11 (.one 12 (.done)))))))) (.one 6 (.one 0 (.one 4 (.one 7 (.one 11 (.one 12 (.done))))))))))))))))], jn := [(2, (23, 8, 23))], lp := [(2, ⟨[0, 3, 6], [.s 3 0], [0, 3, 6], [.s 3 0]⟩)], sh := [.z 8, .n] }
def Qxu : Ann := { ot := [(4, .one 0 (.one 1 (.one 2 (.one 4 (.one 8 (.one 9 (.one 10 (.alt (.one 3 (.one 5 (.one 6 (.one 7 (.one 11 (.one 12 (.one 13 (.done)))))))) (.one 5 (.one 3 (.one 6 (.one 7 (.one 11 (.one 12 (.one 13 (.done))))))))))))))))], jn := [(2, (21, 8, 21))], lp := [(2, ⟨[0, 3, 6], [.s 3 0], [0, 3, 6], [.s 3 0]⟩)], sh := [.z 3, .n] }
def Qzi : Ann := { jn := [(3, (34, 16, 34))], lp := [(6, ⟨[3, 6, 7, 8], [.s 3 0, .s 6 3], [6], [.s 6 3]⟩)], sh := [.z 3, .n] }
def QA5 : Ann := { ot := [(5, .one 1 (.alt (.one 0 (.alt (.one 2 (.one 3 (.one 4 (.one 5 (.one 6 (.done)))))) (.one 3 (.alt (.one 2 (.one 4 (.one 5 (.one 6 (.done))))) (.one 4 (.one 2 (.one 5 (.one 6 (.done))))))))) (.one 3 (.alt (.one 0 (.alt (.one 2 (.one 4 (.one 5 (.one 6 (.done))))) (.one 4 (.one 2 (.one 5 (.one 6 (.done))))))) (.one 4 (.one 0 (.one 2 (.one 5 (.one 6 (.done))))))))))], sh := [.z 5, .n] }
def QB0 : Ann := {}
def QCA : Ann := {}
def Qyr : Ann := { av := [(7, [218])], jn := [(5, (32, 17, 32))], lp := [(5, ⟨[0, 3, 6, 7], [.s 3 0, .s 6 8], [0, 3, 6, 7], [.s 3 0, .s 6 8]⟩)], sh := [.z 8, .n] }
def QyH : Ann := { av := [(8, [219])], jn := [(5, (29, 16, 29))], lp := [(5, ⟨[0, 3, 6, 7], [.s 3 0, .s 6 3], [0, 3, 6, 7], [.s 3 0, .s 6 3]⟩)], sh := [.z 3, .n] }
def QCC : Ann := { jn := [(3, (32, 14, 32))], sh := [.z 3, .n] }
def QDj : Ann := { ot := [(5, .one 0 (.one 2 (.alt (.one 1 (.one 3 (.one 4 (.one 5 (.done))))) (.one 3 (.one 1 (.one 4 (.one 5 (.done))))))))], sh := [.z 5, .n] }
def QBm : Ann := {}
def QAw : Ann := { jn := [(1, (12, 5, 12))] }
def QCB : Ann := { sh := [.z 2] }
def QDM : Ann := {}
def QB6 : Ann := { jn := [(1, (12, 5, 12))] }
def QBS : Ann := { sh := [.z 2] }
def QDE : Ann := {}
def QDw : Ann := {}
def QwP : Ann := { ord := [(5, [0, 1, 2, 3, 4, 5, 6, 7, 8, 9, 10, 11, 13, 14, 15, 16, 17, 12, 18, 19, 20, 21])], eb := [(5, [18])], lp := [(3, ⟨[0, 3, 4], [.s 3 3], [3], [.s 3 3]⟩)], sh := [.z 3] }
def QyY : Ann := { jn := [(4, (35, 10, 35))], lp := [(2, ⟨[0, 3], [], [0], []⟩)], rt := ⟨[2], [], [], []⟩ }
def Qz8 : Ann := { jn := [(4, (61, 10, 61))], lp := [(2, ⟨[0, 3], [], [0], []⟩)], rt := ⟨[2], [], [], []⟩ }
def Qwp : Ann := { jn := [(4, (53, 11, 53)), (9, (77, 59, 77))], lp := [(2, ⟨[0, 3], [], [0], []⟩), (7, ⟨[0, 3, 4], [], [0, 3], []⟩)], rt := ⟨[2], [], [], []⟩ }
def QvA : Ann := { jn := [(5, (58, 16, 58)), (10, (84, 64, 84))], lp := [(2, ⟨[0, 3], [], [0], []⟩), (8, ⟨[0, 3, 4, 5], [.s 4 0], [0, 3], []⟩)], rt := ⟨[2], [], [], []⟩ }
def QxK : Ann := { jn := [(3, (15, 7, 15)), (7, (67, 25, 67)), (10, (96, 73, 96))], lp := [(3, ⟨[0, 3, 4], [], [0], []⟩)], rt := ⟨[2], [], [], []⟩ }
def Qyy : Ann := { jn := [(5, (58, 15, 58))], lp := [(2, ⟨[0, 3], [], [0], []⟩)], rt := ⟨[2], [], [], []⟩ }
def Qt1 : Ann := { ord := [(13, [0, 1, 2, 3, 4, 5, 6, 7, 8, 9, 10, 11, 14, 15, 12, 13, 16, 17, 18, 19, 20, 21, 22, 23, 24, 25, 26, 27, 28, 29])], jn := [(13, (77, 48, 77)), (18, (103, 85, 103))], lp := [(5, ⟨[1, 3, 4], [.s 1 0, .s 3 1], [1, 3], [.s 1 0, .s 3 1]⟩), (10, ⟨[1, 3, 5], [.s 1 0, .s 3 1], [1], [.s 1 0]⟩), (16, ⟨[1, 7], [.s 1 0], [], []⟩)], rt := ⟨[2], [], [], []⟩ }
def Qzl : Ann := { ord := [(8, [0, 1, 2, 3, 4, 5, 6, 7, 8, 9, 10, 11, 12, 13, 14, 15, 16, 17, 18, 19, 20, 21, 22, 23, 24, 25, 26, 27, 28, 29, 30, 32, 33, 34, 35, 36, 38, 31, 37, 39, 40, 41, 42, 43, 44, 45, 46, 47])], jn := [(8, (77, 30, 77))], lp := [(4, ⟨[1, 3], [.s 1 0], [], []⟩)], rt := ⟨[2], [], [], []⟩ }
def Qzd : Ann := { jn := [(6, (34, 15, 34))], lp := [(4, ⟨[0, 8, 9, 10], [], [], []⟩)], rt := ⟨[2], [], [], []⟩ }
def Qz0 : Ann := { jn := [(6, (51, 15, 51))], lp := [(4, ⟨[0, 8, 9, 10], [], [], []⟩)], rt := ⟨[2], [], [], []⟩ }
def QAg : Ann := { jn := [(6, (54, 15, 54))], lp := [(4, ⟨[0, 8, 9, 10], [], [], []⟩)], rt := ⟨[2], [], [], []⟩ }
def QvX : Ann := { jn := [(6, (59, 17, 59)), (11, (82, 68, 82))], lp := [(4, ⟨[0, 10, 11, 12], [], [], []⟩), (9, ⟨[0, 4, 10, 11, 12, 62, 63, 64], [.s 4 0], [0, 10, 11, 12], []⟩)], rt := ⟨[2], [], [], []⟩ }
def Qzt : Ann := { jn := [(7, (61, 17, 61)), (13, (83, 73, 83))], lp := [(5, ⟨[0, 3, 10, 11, 12], [], [], []⟩)], rt := ⟨[2], [], [], []⟩ }
def QxG : Ann := { jn := [(6, (58, 15, 58))], lp := [(4, ⟨[0, 8, 9, 10], [], [], []⟩)], rt := ⟨[2], [], [], []⟩ }
def Qtx : Ann := { ord := [(7, [0, 1, 2, 3, 4, 5, 6, 7, 8, 9, 10, 11, 12, 13, 14, 15, 18, 19, 20, 21, 16, 17, 22, 23, 24])], jn := [(7, (54, 30, 54)), (13, (73, 63, 73))], lp := [(5, ⟨[1, 3, 23, 24, 25], [.s 1 0, .s 3 1], [1, 3], [.s 1 0, .s 3 1]⟩), (11, ⟨[1, 3, 57, 58, 59], [.s 1 0, .s 3 1], [1, 3], [.s 1 0, .s 3 1]⟩), (17, ⟨[1, 75, 76, 77], [.s 1 0, .s 75 1], [], []⟩)], rt := ⟨[2], [], [], []⟩ }
def Qy3 : Ann := { ord := [(7, [0, 1, 2, 3, 4, 5, 6, 7, 8, 9, 10, 11, 12, 13, 14, 15, 16, 17, 18, 19, 20, 21, 22, 24, 26, 27, 23, 25, 28, 29, 30])], jn := [(7, (56, 26, 56))], lp := [(4, ⟨[1, 14, 15, 16], [.s 1 0], [], []⟩)], rt := ⟨[2], [], [], []⟩ }
def Qsj : Ann := { lp := [(3, ⟨[1, 3, 13, 14, 15], [.s 1 0], [1, 3], [.s 1 0]⟩), (8, ⟨[1, 3, 25, 26, 27], [.s 1 0], [1, 3], [.s 1 0]⟩), (13, ⟨[1, 3, 37, 38, 39], [.s 1 0], [1, 3], [.s 1 0]⟩), (18, ⟨[3, 49, 50, 51], [], [3], []⟩)] }
def QDJ : Ann := {}
def QDm : Ann := {}
def QC9 : Ann := {}
def QEg : Ann := {}
def QCb : Ann := {}
def QzJ : Ann := { lp := [(2, ⟨[0, 1, 5], [], [1], []⟩)], rt := ⟨[4], [], [], []⟩ }
def QAG : Ann := {}
def QDl : Ann := { sh := [.a [0, 2, 0]] }
def QDq : Ann := {}
def QDG : Ann := {}
def QDp : Ann := {}
def QAF : Ann := {}
def QAI : Ann := { sh := [.z 8] }
def QzK : Ann := { lp := [(3, ⟨[3, 7, 8, 9], [.s 3 3], [3], [.s 3 3]⟩)], sh := [.z 3] }
def QDz : Ann := { sh := [.z 5] }
def QC1 : Ann := { sh := [.z 4] }
def QAX : Ann := { sh := [.z 5] }
def QCQ : Ann := { sh := [.z 4] }
def QAs : Ann := {}
def QxZ : Ann := { lp := [(2, ⟨[0, 1, 5], [], [], []⟩)], rt := ⟨[4], [], [], []⟩ }
def QBL : Ann := {}
def Qyv : Ann := { lp := [(2, ⟨[0, 1, 5], [], [], []⟩)], rt := ⟨[4], [], [], []⟩ }
def QBG : Ann := { jn := [(1, (2, 3, 26))] }
def QyQ : Ann := { jn := [(4, (43, 10, 43))], lp := [(2, ⟨[0, 3], [], [0], []⟩)], rt := ⟨[2], [], [], []⟩ }
def n189 : Ann := {}
def QqH : Ann := { lp := [(2, ⟨[0, 1, 7, 8], [], [], []⟩)], rt := ⟨[4], [], [], []⟩ }
def QCd : Ann := {}
def QDF : Ann := {}
def QAD : Ann := { sh := [.z 2] }
def QAW : Ann := {}
def Qy2 : Ann := { lp := [(2, ⟨[1, 7, 8, 9], [], [], []⟩)], rt := ⟨[4], [], [], []⟩ }
def QA0 : Ann := { jn := [(1, (2, 3, 26))] }
def QzC : Ann := { jn := [(6, (39, 15, 39))], lp := [(4, ⟨[0, 8, 9, 10], [], [], []⟩)], rt := ⟨[2], [], [], []⟩ }
def QBj : Ann := {}
def Qw3 : Ann := {}
def QDT : Ann := { jn := [(1, (3, 4, 16))] }
def Qxq : Ann := { lp := [(2, ⟨[0, 1, 7, 8], [], [], []⟩)], rt := ⟨[4], [], [], []⟩ }
def QEb : Ann := {}
def Qxc : Ann := { jn := [(3, (21, 15, 21))], lp := [(6, ⟨[6, 7, 8], [.s 6 3], [6], [.s 6 3]⟩)], sh := [.z 3, .n] }
def QBP : Ann := { ot := [(1, .one 1 (.alt (.one 0 (.alt (.one 2 (.one 3 (.one 4 (.one 5 (.one 6 (.done)))))) (.one 3 (.alt (.one 2 (.one 4 (.one 5 (.one 6 (.done))))) (.one 4 (.one 2 (.one 5 (.one 6 (.done))))))))) (.one 3 (.alt (.one 0 (.alt (.one 2 (.one 4 (.one 5 (.one 6 (.done))))) (.one 4 (.one 2 (.one 5 (.one 6 (.done))))))) (.one 4 (.one 0 (.one 2 (.one 5 (.one 6 (.done))))))))))], sh := [.z 4, .n] }
def QBg : Ann := { jn := [(1, (2, 3, 26))] }
def QDS : Ann := {}
def QDo : Ann := {}
def QDv : Ann := { jn := [(3, (19, 13, 19))], sh := [.z 3, .n] }
def QDR : Ann := { jn := [(1, (2, 3, 26))] }
def QDX : Ann := { jn := [(1, (4, 5, 13))] }
def QDL : Ann := { jn := [(1, (4, 5, 13))] }
def QDu : Ann := { jn := [(1, (3, 4, 14))] }
def Qxb : Ann := { jn := [(5, (44, 13, 44))], lp := [(3, ⟨[0, 1, 5, 6], [], [0, 5], []⟩)] }
def QD7 : Ann := {}
def QyS : Ann := { jn := [(5, (37, 15, 37))], lp := [(3, ⟨[0, 1, 5, 8, 9, 10], [], [5], []⟩)] }
def QCv : Ann := {}
def Qwq : Ann := { jn := [(4, (26, 11, 26))], lp := [(2, ⟨[0, 3], [], [0], []⟩), (7, ⟨[0, 3, 4], [], [0, 3], []⟩)], rt := ⟨[2], [], [], []⟩ }
def Qwk : Ann := { ot := [(8, .one 1 (.one 2 (.one 3 (.one 5 (.one 6 (.one 11 (.one 12 (.one 13 (.alt (.one 0 (.alt (.one 4 (.one 7 (.one 8 (.one 9 (.one 10 (.one 14 (.one 15 (.done)))))))) (.one 7 (.alt (.one 4 (.one 8 (.one 9 (.one 10 (.one 14 (.one 15 (.done))))))) (.one 8 (.alt (.one 4 (.one 9 (.one 10 (.one 14 (.one 15 (.done)))))) (.one 9 (.one 4 (.one 10 (.one 14 (.one 15 (.done)))))))))))) (.one 7 (.alt (.one 0 (.alt (.one 4 (.one 8 (.one 9 (.one 10 (.one 14 (.one 15 (.done))))))) (.one 8 (.alt (.one 4 (.one 9 (.one 10 (.one 14 (.one 15 (.done)))))) (.one 9 (.one 4 (.one 10 (.one 14 (.one 15 (.done)))))))))) (.one 8 (.alt (.one 0 (.alt (.one 4 (.one 9 (.one 10 (.one 14 (.one 15 (.done)))))) (.one 9 (.one 4 (.one 10 (.one 14 (.one 15 (.done)))))))) (.one 9 (.one 0 (.one 4 (.one 10 (.one 14 (.one 15 (.done))))))))))))))))))))], fz := [(8, [3])], jn := [(6, (30, 15, 30))], lp := [(3, ⟨[0, 3, 4], [.s 3 3], [3], [.s 3 3]⟩), (6, ⟨[0, 3, 4, 5], [.s 3 3], [0, 3, 4, 5], [.s 3 3]⟩)], sh := [.z 3] }
def Qtn : Ann := { jn := [(9, (43, 31, 43))], lp := [(4, ⟨[0, 1, 5, 6, 7], [.s 5 1], [0, 1, 5, 6], [.s 5 1]⟩), (13, ⟨[0, 1, 5, 6, 8, 9], [.s 5 1], [5, 8], [.s 5 1]⟩), (18, ⟨[5, 8, 10], [.s 5 1], [5], [.s 5 1]⟩)], rt := ⟨[4], [.s 4 1], [], []⟩, sh := [.z 1] }
def Qzn : Ann := { jn := [(6, (24, 15, 24))], lp := [(4, ⟨[0, 8, 9, 10], [], [], []⟩)], rt := ⟨[2], [], [], []⟩ }
def QDi : Ann := { ac := [(2, 0)], sh := [.z 3] }
def Qug : Ann := { jn := [(2, (23, 15, 23))], lp := [(6, ⟨[0, 1, 5, 6, 25, 26, 27], [.s 5 1], [0, 1, 5, 6], [.s 5 1]⟩), (16, ⟨[0, 5, 6, 9, 43, 44, 45], [.s 5 1], [5, 9], [.s 5 1]⟩), (23, ⟨[5, 9, 13], [.s 5 1], [5], [.s 5 1]⟩)], rt := ⟨[4], [.s 4 1], [], []⟩, sh := [.z 1] }
def QDt : Ann := {}
def QAt : Ann := { jn := [(1, (2, 3, 21))] }
def Qya : Ann := { lp := [(3, ⟨[0, 1, 2, 7, 8], [], [7], []⟩)] }
def QxS : Ann := { jn := [(3, (16, 9, 16)), (6, (42, 28, 42))], lp := [(3, ⟨[0, 1, 5, 6], [.s 5 1], [5], [.s 5 1]⟩)], sh := [.z 1] }
def Qyd : Ann := { lp := [(2, ⟨[0, 1, 5], [], [], []⟩)], rt := ⟨[4], [], [], []⟩ }
def QCu : Ann := { jn := [(1, (2, 3, 21))] }
def QCJ : Ann := {}
def Qym : Ann := { lp := [(2, ⟨[0, 1, 5], [], [], []⟩)], rt := ⟨[4], [], [], []⟩ }
def Qz5 : Ann := { ac := [(10, 0)], jn := [(7, (36, 20, 36))], lp := [(5, ⟨[0, 1, 5, 13, 14, 15], [.s 5 1], [5], [.s 5 1]⟩)], sh := [.z 1] }
def QBz : Ann := {}
def QD5 : Ann := {}
def Qzj : Ann := { lp := [(2, ⟨[0, 1, 7, 8], [], [], []⟩)], rt := ⟨[4], [], [], []⟩ }
def QDA : Ann := { jn := [(1, (19, 7, 19))] }
def QAc : Ann := { lp := [(2, ⟨[0, 1, 7, 8], [], [], []⟩)], rt := ⟨[4], [], [], []⟩ }
def QBI : Ann := {}
def QBf : Ann := { jn := [(1, (19, 7, 19))] }
def Qyu : Ann := { lp := [(2, ⟨[0, 1, 7, 8], [], [], []⟩)], rt := ⟨[4], [], [], []⟩ }
def QAU : Ann := {}
def QBE : Ann := {}
def QBD : Ann := {}
def QzX : Ann := { lp := [(3, ⟨[0, 3, 4], [], [3], []⟩)] }
def Qxa : Ann := { lp := [(3, ⟨[3, 6, 7, 8], [], [3], []⟩)] }
def QBy : Ann := { jn := [(1, (2, 3, 11))] }
def QC6 : Ann := {}
def QBK : Ann := {}
def QDI : Ann := { sh := [.z 3] }
def QCj : Ann := { ak := [0], ac := [(0, 0)] }
def QCw : Ann := {}
def QDn : Ann := {}
def QzH : Ann := { ot := [(6, .one 1 (.one 2 (.one 3 (.one 5 (.one 8 (.one 9 (.one 10 (.alt (.one 0 (.alt (.one 4 (.one 6 (.one 7 (.one 11 (.one 12 (.done)))))) (.one 6 (.one 4 (.one 7 (.one 11 (.one 12 (.done)))))))) (.one 6 (.one 0 (.one 4 (.one 7 (.one 11 (.one 12 (.done)))))))))))))))], jn := [(2, (17, 6, 17)), (4, (31, 20, 31))], lp := [(2, ⟨[0, 1, 5], [], [0, 1, 5], []⟩)], sh := [.z 1] }
def QxR : Ann := { lp := [(2, ⟨[0, 1, 7, 8], [], [], []⟩)], rt := ⟨[4], [], [], []⟩ }
def QCp : Ann := {}
def QCk : Ann := { jn := [(5, (10, 11, 17))] }
def QBa : Ann := {}
def QDH : Ann := {}
def QyG : Ann := { lp := [(2, ⟨[0, 1, 7, 8], [], [], []⟩)], rt := ⟨[4], [], [], []⟩ }
def QtY : Ann := { ak := [0], ac := [(3, 0), (6, 0)], lp := [(2, ⟨[0, 1, 2, 6, 7, 8], [.s 0 3], [0, 1, 2, 6, 7], [.s 0 3]⟩), (7, ⟨[0, 1, 2, 6], [.s 0 3], [0], [.s 0 3]⟩), (9, ⟨[0, 1, 2, 6, 7, 8], [.s 0 3], [0, 1, 2, 6, 7], [.s 0 3]⟩)] }
def QAm : Ann := {}
def QCn : Ann := {}
def Qwc : Ann := { ak := [0], jn := [(4, (34, 18, 34))], lp := [(1, ⟨[0, 1, 2, 3, 8], [.s 0 3], [0], [.s 0 3]⟩), (4, ⟨[0, 1, 2, 3, 8, 9], [.s 0 3], [0, 1, 2, 3, 8], [.s 0 3]⟩)] }
noncomputable def T : Tld := { P := Tryz.prog, ann := [(12, n12), (13, n13), (15, n15), (17, n17), (18, n18), (19, n19), (20, n20), (21, n21), (22, n22), (23, n23), (24, n24), (25, n25), (26, n26), (27, n27), (28, n28), (29, n29), (30, n30), (31, n31), (32, n32), (33, n33), (34, n34), (35, n35), (36, n36), (37, n37), (38, n38), (39, n39), (40, n40), (41, n41), (42, n42), (43, n43), (44, n44), (45, n45), (46, n46), (47, n47), (48, n48), (49, n49), (50, n50), (51, n51), (53, n53), (54, n54), (55, n55), (56, n56), (57, n57), (58, n58), (59, n59), (60, n60), (62, n62), (63, n63), (64, n64), (65, n65), (66, n66), (67, n67), (68, n68), (69, n69), (70, n70), (71, n71), (72, n72), (73, n73), (74, n74), (75, n75), (76, n76), (77, n77), (78, n78), (79, n79), (80, n80), (81, n81), (82, n82), (83, n83), (84, n84), (85, n85), (86, n86), (87, n87), (88, n88), (89, n89), (90, n90), (91, n91), (92, n92), (93, n93), (94, n94), (95, n95), (96, n96), (97, n97), (98, n98), (99, n99), (100, Qv7), (101, QBe), (102, QwW), (103, QAp), (104, QBp), (105, QCy), (106, QDN), (107, QBw), (108, QB9), (109, QBU), (110, QCq), (111, QAe), (112, Qyb), (113, QzA), (114, QA4), (116, Qxd), (117, Qw5), (118, QDy), (119, QCM), (120, QDU), (121, QDe), (122, QAQ), (123, Qzs), (124, QBh), (125, QDs), (126, QCz), (127, Qzy), (128, QB5), (129, QzY), (130, Qxu), (131, Qzi), (132, QA5), (133, QB0), (134, QCA), (135, Qyr), (136, QyH), (137, QCC), (138, QDj), (139, QBm), (140, QAw), (141, QCB), (142, QDM), (143, QB6), (144, QBS), (145, QDE), (146, QDw), (147, QwP), (148, QyY), (149, Qz8), (150, Qwp), (151, QvA), (152, QxK), (153, Qyy), (154, Qt1), (155, Qzl), (156, Qzd), (157, Qz0), (158, QAg), (159, QvX), (160, Qzt), (161, QxG), (162, Qtx), (163, Qy3), (164, Qsj), (165, QDJ), (166, QDm), (167, QC9), (168, QEg), (169, QCb), (170, QzJ), (171, QAG), (172, QDl), (173, QDq), (174, QDG), (175, QDp), (176, QAF), (177, QAI), (178, QzK), (179, QDz), (180, QC1), (181, QAX), (182, QCQ), (183, QAs), (184, QxZ), (185, QBL), (186, Qyv), (187, QBG), (188, QyQ), (189, n189), (190, QqH), (191, QCd), (192, QDF), (193, QAD), (194, QAW), (195, Qy2), (196, QA0), (197, QzC), (198, QBj), (199, Qw3), (200, QDT), (202, Qxq), (203, QEb), (206, Qxc), (207, QBP), (208, QBg), (209, QDS), (210, QDo), (211, QDv), (212, QDR), (213, QDX), (214, QDL), (215, QDu), (216, Qxb), (217, QD7), (220, QyS), (221, QCv), (222, Qwq), (223, Qwk), (224, Qtn), (225, Qzn), (226, QDi), (227, Qug), (228, QDt), (229, QAt), (230, Qya), (231, QxS), (232, Qyd), (233, QCu), (234, QCJ), (235, Qym), (236, Qz5), (237, QBz), (238, QD5), (239, Qzj), (240, QDA), (241, QAc), (242, QBI), (243, QBf), (247, Qyu), (248, QAU), (249, QBE), (250, QBD), (251, QzX), (256, Qxa), (257, QBy), (258, QC6), (259, QBK), (260, QDI), (261, QCj), (262, QCw), (263, QDn), (264, QzH), (266, QxR), (267, QCp), (270, QCk), (271, QBa), (274, QDH), (275, QyG), (276, QtY), (277, QAm), (283, QCn), (284, Qwc)], xt := fun _ _ => none, st := fun g => Nat.beq g 265, qt := fun _ => false, pz := [(183, [.z 1, .n])], vt := fun g => Nat.beq g 92 || Nat.beq g 100 || Nat.beq g 115 || Nat.beq g 120 || Nat.beq g 201 || Nat.beq g 218 || Nat.beq g 219, mt := mt }
theorem TP : T.P = Tryz.prog := _root_.id rfl
theorem TZ : T.pz = [(183, [.z 1, .n])] := _root_.id rfl
theorem QD9 (n : Nat) (args : List AV) : CP T n 285 args = none := by
 cases n with
 | zero => rfl
 | succ n => rw [QVr T n 285 args (by kernel_rfl)]; rfl
def eY := aI evT <| aI QLb <| aI @QTT <| aI @QnY <| @VF
def eZ := aI evB <| aI evT <| aI tys <| aI QLb <| aI TP <| aI TZ <| aI (@QJY T) <| aI (@QPl T) <| aI (@QMr T) <| aI @QD9 <| @QPA T
theorem QAE (n : Nat) {R} {xs : List Trial} (i : Int) {V} {ys : List Trial} [H1 : EncL QA R xs] [H2 : EncL QA V ys] : CM T (n + 1) 115 [some (.lst 4 R), some (.lst 4 V)] [.sl 0, .i .i64 i, .sl 1] = Vi (Qez xs i ys 32) (some (.own 4 ((Q4 xs i ys).map QA))) () := by
 rcases H1, H2 with ⟨⟨rfl⟩, ⟨rfl⟩⟩
 rw [QBC T n 115 _ _ (by kernel_rfl)]
 show (if 4 = 4 ∧ 4 = 4 ∧ Qs (xs.map QA) = true ∧ Qs (ys.map QA) = true then Vi (Qez (xs.map QA) i (ys.map QA) 32) (some (AV.own 4 (Q4 (xs.map QA) i (ys.map QA)))) () else none) = _
 rw [if_pos ⟨rfl, rfl, Qj0 xs, Qj0 ys⟩, QqZ, QrF]
theorem QCa (n : Nat) {R} {xs : List Claim} (i : Int) {V} {ys : List Claim} [H1 : EncL Qg R xs] [H2 : EncL Qg V ys] : CM T (n + 1) 201 [some (.lst 5 R), some (.lst 5 V)] [.sl 0, .i .i64 i, .sl 1] = Vi (Qez xs i ys 40) (some (.own 5 ((Q4 xs i ys).map Qg))) () := by
 rcases H1, H2 with ⟨⟨rfl⟩, ⟨rfl⟩⟩
 rw [QBC T n 201 _ _ (by kernel_rfl)]
 show (if 5 = 5 ∧ 5 = 5 ∧ Qs (xs.map Qg) = true ∧ Qs (ys.map Qg) = true then Vi (Qez (xs.map Qg) i (ys.map Qg) 40) (some (AV.own 5 (Q4 (xs.map Qg) i (ys.map Qg)))) () else none) = _
 rw [if_pos ⟨rfl, rfl, Qkg xs, Qkg ys⟩, QqZ, QrF]
theorem QAR (n : Nat) {R} {xs : List Find} (i : Int) {V} {ys : List Find} [H1 : EncL Qv R xs] [H2 : EncL Qv V ys] : CM T (n + 1) 218 [some (.lst 8 R), some (.lst 8 V)] [.sl 0, .i .i64 i, .sl 1] = Vi (Qez xs i ys 64) (some (.own 8 ((Q4 xs i ys).map Qv))) () := by
 rcases H1, H2 with ⟨⟨rfl⟩, ⟨rfl⟩⟩
 rw [QBC T n 218 _ _ (by kernel_rfl)]
 show (if 8 = 8 ∧ 8 = 8 ∧ Qs (xs.map Qv) = true ∧ Qs (ys.map Qv) = true then Vi (Qez (xs.map Qv) i (ys.map Qv) 64) (some (AV.own 8 (Q4 (xs.map Qv) i (ys.map Qv)))) () else none) = _
 rw [if_pos ⟨rfl, rfl, Qno xs, Qno ys⟩, QqZ, QrF]
theorem QAL (n : Nat) {R} {xs : List Secret} (i : Int) {V} {ys : List Secret} [H1 : EncL Qw R xs] [H2 : EncL Qw V ys] : CM T (n + 1) 219 [some (.lst 3 R), some (.lst 3 V)] [.sl 0, .i .i64 i, .sl 1] = Vi (Qez xs i ys 40) (some (.own 3 ((Q4 xs i ys).map Qw))) () := by
 rcases H1, H2 with ⟨⟨rfl⟩, ⟨rfl⟩⟩
 rw [QBC T n 219 _ _ (by kernel_rfl)]
 show (if 3 = 3 ∧ 3 = 3 ∧ Qs (xs.map Qw) = true ∧ Qs (ys.map Qw) = true then Vi (Qez (xs.map Qw) i (ys.map Qw) 40) (some (AV.own 3 (Q4 (xs.map Qw) i (ys.map Qw)))) () else none) = _
 rw [if_pos ⟨rfl, rfl, QhP xs, QhP ys⟩, QqZ, QrF]
theorem QRW : cI = Vg := _root_.id rfl
theorem QFi (xs : List Int) : Qdy (xs.map Vg) = some xs := Quc xs
theorem QEY : T.st 265 = true := by kernel_rfl
theorem QN5 : T.st 19 = false := by kernel_rfl
theorem QPN : T.qt 19 = false := by kernel_rfl
theorem QOe : T.wt 19 = true := by kernel_rfl
theorem QH1 : T.vt 19 = false := by kernel_rfl
theorem QMd : T.st 20 = false := by kernel_rfl
theorem QOI : T.qt 20 = false := by kernel_rfl
theorem QMZ : T.wt 20 = true := by kernel_rfl
theorem QJz : T.vt 20 = false := by kernel_rfl
theorem QL9 : T.st 40 = false := by kernel_rfl
theorem QJX : T.qt 40 = false := by kernel_rfl
theorem QMt : T.wt 40 = true := by kernel_rfl
theorem QKT : T.vt 40 = false := by kernel_rfl
theorem QM7 : T.st 46 = false := by kernel_rfl
theorem QJb : T.qt 46 = false := by kernel_rfl
theorem QNI : T.wt 46 = true := by kernel_rfl
theorem QOo : T.vt 46 = false := by kernel_rfl
theorem QNK : T.st 58 = false := by kernel_rfl
theorem QKS : T.qt 58 = false := by kernel_rfl
theorem QKr : T.wt 58 = true := by kernel_rfl
theorem QIm : T.vt 58 = false := by kernel_rfl
theorem QK5 : T.st 72 = false := by kernel_rfl
theorem QKs : T.qt 72 = false := by kernel_rfl
theorem QMN : T.wt 72 = true := by kernel_rfl
theorem QLP : T.vt 72 = false := by kernel_rfl
theorem QMI : T.st 73 = false := by kernel_rfl
theorem QMs : T.qt 73 = false := by kernel_rfl
theorem QLE : T.wt 73 = true := by kernel_rfl
theorem QJq : T.vt 73 = false := by kernel_rfl
theorem QN4 : T.st 74 = false := by kernel_rfl
theorem QIt : T.qt 74 = false := by kernel_rfl
theorem QL1 : T.wt 74 = true := by kernel_rfl
theorem QN0 : T.vt 74 = false := by kernel_rfl
theorem QKJ : T.st 75 = false := by kernel_rfl
theorem QIK : T.qt 75 = false := by kernel_rfl
theorem QMH : T.wt 75 = true := by kernel_rfl
theorem QME : T.vt 75 = false := by kernel_rfl
theorem QIc : T.st 76 = false := by kernel_rfl
theorem QJ6 : T.qt 76 = false := by kernel_rfl
theorem QJ2 : T.wt 76 = true := by kernel_rfl
theorem QJl : T.vt 76 = false := by kernel_rfl
theorem QI5 : T.st 77 = false := by kernel_rfl
theorem QKA : T.qt 77 = false := by kernel_rfl
theorem QJ8 : T.wt 77 = true := by kernel_rfl
theorem QMu : T.vt 77 = false := by kernel_rfl
theorem QLF : T.st 92 = false := by kernel_rfl
theorem QNL : T.qt 92 = false := by kernel_rfl
theorem QJM : T.wt 92 = false := by kernel_rfl
theorem QNh : T.vt 92 = true := by kernel_rfl
theorem QEU : T.st 100 = false := by kernel_rfl
theorem QHf : T.qt 100 = false := by kernel_rfl
theorem QHq : T.wt 100 = false := by kernel_rfl
theorem QHu : T.vt 100 = true := by kernel_rfl
theorem QE2 : T.st 115 = false := by kernel_rfl
theorem QGD : T.qt 115 = false := by kernel_rfl
theorem QHC : T.wt 115 = false := by kernel_rfl
theorem QF2 : T.vt 115 = true := by kernel_rfl
theorem QGQ : T.st 120 = false := by kernel_rfl
theorem QG1 : T.qt 120 = false := by kernel_rfl
theorem QFt : T.wt 120 = false := by kernel_rfl
theorem QF7 : T.vt 120 = true := by kernel_rfl
theorem QHd : T.st 201 = false := by kernel_rfl
theorem QGt : T.qt 201 = false := by kernel_rfl
theorem QFm : T.wt 201 = false := by kernel_rfl
theorem QFJ : T.vt 201 = true := by kernel_rfl
theorem QGd : T.st 218 = false := by kernel_rfl
theorem QG9 : T.qt 218 = false := by kernel_rfl
theorem QFy : T.wt 218 = false := by kernel_rfl
theorem QHD : T.vt 218 = true := by kernel_rfl
theorem QGE : T.st 219 = false := by kernel_rfl
theorem QHx : T.qt 219 = false := by kernel_rfl
theorem QHF : T.wt 219 = false := by kernel_rfl
theorem QGq : T.vt 219 = true := by kernel_rfl
theorem QHU : T.st 261 = false := by kernel_rfl
theorem QHr : T.qt 261 = false := by kernel_rfl
theorem QF4 : T.wt 261 = true := by kernel_rfl
theorem QG2 : T.vt 261 = false := by kernel_rfl
theorem QFF : T.st 276 = false := by kernel_rfl
theorem QGv : T.qt 276 = false := by kernel_rfl
theorem QGW : T.wt 276 = true := by kernel_rfl
theorem QFX : T.vt 276 = false := by kernel_rfl
theorem QGl : T.st 284 = false := by kernel_rfl
theorem QFQ : T.qt 284 = false := by kernel_rfl
theorem QHc : T.wt 284 = true := by kernel_rfl
theorem QE5 : T.vt 284 = false := by kernel_rfl
def srt := aI @QRW <| aI @QFi <| aI @QM0 <| aI @QON <| aI @QNk <| aI @QJD <| aI @QEY <| aI @QN5 <| aI @QPN <| aI @QOe <| aI @QH1 <| aI @QMd <| aI @QOI <| aI @QMZ <| aI @QJz <| aI @QL9 <| aI @QJX <| aI @QMt <| aI @QKT <| aI @QM7 <| aI @QJb <| aI @QNI <| aI @QOo <| aI @QNK <| aI @QKS <| aI @QKr <| aI @QIm <| aI @QK5 <| aI @QKs <| aI @QMN <| aI @QLP <| aI @QMI <| aI @QMs <| aI @QLE <| aI @QJq <| aI @QN4 <| aI @QIt <| aI @QL1 <| aI @QN0 <| aI @QKJ <| aI @QIK <| aI @QMH <| aI @QME <| aI @QIc <| aI @QJ6 <| aI @QJ2 <| aI @QJl <| aI @QI5 <| aI @QKA <| aI @QJ8 <| aI @QMu <| aI @QLF <| aI @QNL <| aI @QJM <| aI @QNh <| aI @QEU <| aI @QHf <| aI @QHq <| aI @QHu <| aI @QE2 <| aI @QGD <| aI @QHC <| aI @QF2 <| aI @QGQ <| aI @QG1 <| aI @QFt <| aI @QF7 <| aI @QHd <| aI @QGt <| aI @QFm <| aI @QFJ <| aI @QGd <| aI @QG9 <| aI @QFy <| aI @QHD <| aI @QGE <| aI @QHx <| aI @QHF <| aI @QGq <| aI @QHU <| aI @QHr <| aI @QF4 <| aI @QG2 <| aI @QFF <| aI @QGv <| aI @QGW <| aI @QFX <| aI @QGl <| aI @QFQ <| aI @QHc @QE5
theorem a12 : T.at 12 = some n12 := by kernel_rfl
theorem a13 : T.at 13 = some n13 := by kernel_rfl
theorem a15 : T.at 15 = some n15 := by kernel_rfl
theorem a17 : T.at 17 = some n17 := by kernel_rfl
theorem a18 : T.at 18 = some n18 := by kernel_rfl
theorem a19 : T.at 19 = some n19 := by kernel_rfl
theorem a20 : T.at 20 = some n20 := by kernel_rfl
theorem a21 : T.at 21 = some n21 := by kernel_rfl
theorem a22 : T.at 22 = some n22 := by kernel_rfl
theorem a23 : T.at 23 = some n23 := by kernel_rfl
theorem a24 : T.at 24 = some n24 := by kernel_rfl
theorem a25 : T.at 25 = some n25 := by kernel_rfl
theorem a26 : T.at 26 = some n26 := by kernel_rfl
theorem a27 : T.at 27 = some n27 := by kernel_rfl
theorem a28 : T.at 28 = some n28 := by kernel_rfl
theorem a29 : T.at 29 = some n29 := by kernel_rfl
theorem a30 : T.at 30 = some n30 := by kernel_rfl
theorem a31 : T.at 31 = some n31 := by kernel_rfl
theorem a32 : T.at 32 = some n32 := by kernel_rfl
theorem a33 : T.at 33 = some n33 := by kernel_rfl
theorem a34 : T.at 34 = some n34 := by kernel_rfl
theorem a35 : T.at 35 = some n35 := by kernel_rfl
theorem a36 : T.at 36 = some n36 := by kernel_rfl
theorem a37 : T.at 37 = some n37 := by kernel_rfl
theorem a38 : T.at 38 = some n38 := by kernel_rfl
theorem a39 : T.at 39 = some n39 := by kernel_rfl
theorem a40 : T.at 40 = some n40 := by kernel_rfl
theorem a41 : T.at 41 = some n41 := by kernel_rfl
theorem a42 : T.at 42 = some n42 := by kernel_rfl
theorem a43 : T.at 43 = some n43 := by kernel_rfl
theorem a44 : T.at 44 = some n44 := by kernel_rfl
theorem a45 : T.at 45 = some n45 := by kernel_rfl
theorem a46 : T.at 46 = some n46 := by kernel_rfl
theorem a47 : T.at 47 = some n47 := by kernel_rfl
theorem a48 : T.at 48 = some n48 := by kernel_rfl
theorem a49 : T.at 49 = some n49 := by kernel_rfl
theorem a50 : T.at 50 = some n50 := by kernel_rfl
theorem a51 : T.at 51 = some n51 := by kernel_rfl
theorem a53 : T.at 53 = some n53 := by kernel_rfl
theorem a54 : T.at 54 = some n54 := by kernel_rfl
theorem a55 : T.at 55 = some n55 := by kernel_rfl
theorem a56 : T.at 56 = some n56 := by kernel_rfl
theorem a57 : T.at 57 = some n57 := by kernel_rfl
theorem a58 : T.at 58 = some n58 := by kernel_rfl
theorem a59 : T.at 59 = some n59 := by kernel_rfl
theorem a60 : T.at 60 = some n60 := by kernel_rfl
theorem a62 : T.at 62 = some n62 := by kernel_rfl
theorem a63 : T.at 63 = some n63 := by kernel_rfl
theorem a64 : T.at 64 = some n64 := by kernel_rfl
theorem a65 : T.at 65 = some n65 := by kernel_rfl
theorem a66 : T.at 66 = some n66 := by kernel_rfl
theorem a67 : T.at 67 = some n67 := by kernel_rfl
theorem a68 : T.at 68 = some n68 := by kernel_rfl
theorem a69 : T.at 69 = some n69 := by kernel_rfl
theorem a70 : T.at 70 = some n70 := by kernel_rfl
theorem a71 : T.at 71 = some n71 := by kernel_rfl
theorem a72 : T.at 72 = some n72 := by kernel_rfl
theorem a73 : T.at 73 = some n73 := by kernel_rfl
theorem a74 : T.at 74 = some n74 := by kernel_rfl
theorem a75 : T.at 75 = some n75 := by kernel_rfl
theorem a76 : T.at 76 = some n76 := by kernel_rfl
theorem a77 : T.at 77 = some n77 := by kernel_rfl
theorem a78 : T.at 78 = some n78 := by kernel_rfl
theorem a79 : T.at 79 = some n79 := by kernel_rfl
theorem a80 : T.at 80 = some n80 := by kernel_rfl
theorem a81 : T.at 81 = some n81 := by kernel_rfl
theorem a82 : T.at 82 = some n82 := by kernel_rfl
theorem a83 : T.at 83 = some n83 := by kernel_rfl
theorem a84 : T.at 84 = some n84 := by kernel_rfl
theorem a85 : T.at 85 = some n85 := by kernel_rfl
theorem a86 : T.at 86 = some n86 := by kernel_rfl
theorem a87 : T.at 87 = some n87 := by kernel_rfl
theorem a88 : T.at 88 = some n88 := by kernel_rfl
theorem a89 : T.at 89 = some n89 := by kernel_rfl
theorem a90 : T.at 90 = some n90 := by kernel_rfl
theorem a91 : T.at 91 = some n91 := by kernel_rfl
theorem a92 : T.at 92 = some n92 := by kernel_rfl
theorem a93 : T.at 93 = some n93 := by kernel_rfl
theorem a94 : T.at 94 = some n94 := by kernel_rfl
theorem a95 : T.at 95 = some n95 := by kernel_rfl
theorem a96 : T.at 96 = some n96 := by kernel_rfl
theorem a97 : T.at 97 = some n97 := by kernel_rfl
theorem a98 : T.at 98 = some n98 := by kernel_rfl
theorem a99 : T.at 99 = some n99 := by kernel_rfl
theorem QEO : T.at 100 = some Qv7 := by kernel_rfl
theorem QSo : T.at 101 = some QBe := by kernel_rfl
theorem QPI : T.at 102 = some QwW := by kernel_rfl
theorem QQo : T.at 103 = some QAp := by kernel_rfl
theorem QU9 : T.at 104 = some QBp := by kernel_rfl
theorem QRc : T.at 105 = some QCy := by kernel_rfl
theorem QTt : T.at 106 = some QDN := by kernel_rfl
theorem QR0 : T.at 107 = some QBw := by kernel_rfl
theorem QP7 : T.at 108 = some QB9 := by kernel_rfl
theorem QU3 : T.at 109 = some QBU := by kernel_rfl
theorem QTj : T.at 110 = some QCq := by kernel_rfl
theorem QKK : T.at 111 = some QAe := by kernel_rfl
theorem QJF : T.at 112 = some Qyb := by kernel_rfl
theorem QK1 : T.at 113 = some QzA := by kernel_rfl
theorem QTI : T.at 114 = some QA4 := by kernel_rfl
theorem QPU : T.at 116 = some Qxd := by kernel_rfl
theorem QH4 : T.at 117 = some Qw5 := by kernel_rfl
theorem QTz : T.at 118 = some QDy := by kernel_rfl
theorem QSw : T.at 119 = some QCM := by kernel_rfl
theorem QVc : T.at 120 = some QDU := by kernel_rfl
theorem QP9 : T.at 121 = some QDe := by kernel_rfl
theorem QUz : T.at 122 = some QAQ := by kernel_rfl
theorem QLl : T.at 123 = some Qzs := by kernel_rfl
theorem QRe : T.at 124 = some QBh := by kernel_rfl
theorem QQ9 : T.at 125 = some QDs := by kernel_rfl
theorem QQw : T.at 126 = some QCz := by kernel_rfl
theorem QJd : T.at 127 = some Qzy := by kernel_rfl
theorem QSL : T.at 128 = some QB5 := by kernel_rfl
theorem QKP : T.at 129 = some QzY := by kernel_rfl
theorem QK7 : T.at 130 = some Qxu := by kernel_rfl
theorem a131 : T.at 131 = some Qzi := by kernel_rfl
theorem QS4 : T.at 132 = some QA5 := by kernel_rfl
theorem QRZ : T.at 133 = some QB0 := by kernel_rfl
theorem QUj : T.at 134 = some QCA := by kernel_rfl
theorem QPD : T.at 135 = some Qyr := by kernel_rfl
theorem QPy : T.at 136 = some QyH := by kernel_rfl
theorem QQT : T.at 137 = some QCC := by kernel_rfl
theorem QSM : T.at 138 = some QDj := by kernel_rfl
theorem QRX : T.at 139 = some QBm := by kernel_rfl
theorem QQb : T.at 140 = some QAw := by kernel_rfl
theorem QVt : T.at 141 = some QCB := by kernel_rfl
theorem QRO : T.at 142 = some QDM := by kernel_rfl
theorem QVs : T.at 143 = some QB6 := by kernel_rfl
theorem QQ7 : T.at 144 = some QBS := by kernel_rfl
theorem QTU : T.at 145 = some QDE := by kernel_rfl
theorem QVm : T.at 146 = some QDw := by kernel_rfl
theorem QPJ : T.at 147 = some QwP := by kernel_rfl
theorem QMK : T.at 148 = some QyY := by kernel_rfl
theorem QIv : T.at 149 = some Qz8 := by kernel_rfl
theorem QGU : T.at 150 = some Qwp := by kernel_rfl
theorem QGe : T.at 151 = some QvA := by kernel_rfl
theorem QIV : T.at 152 = some QxK := by kernel_rfl
theorem QMV : T.at 153 = some Qyy := by kernel_rfl
theorem QAV : T.at 154 = some Qt1 := by kernel_rfl
theorem QIE : T.at 155 = some Qzl := by kernel_rfl
theorem QLf : T.at 156 = some Qzd := by kernel_rfl
theorem QMO : T.at 157 = some Qz0 := by kernel_rfl
theorem QKq : T.at 158 = some QAg := by kernel_rfl
theorem QE9 : T.at 159 = some QvX := by kernel_rfl
theorem QI1 : T.at 160 = some Qzt := by kernel_rfl
theorem QPo : T.at 161 = some QxG := by kernel_rfl
theorem QC8 : T.at 162 = some Qtx := by kernel_rfl
theorem QLW : T.at 163 = some Qy3 := by kernel_rfl
theorem Qzb : T.at 164 = some Qsj := by kernel_rfl
theorem QSh : T.at 165 = some QDJ := by kernel_rfl
theorem QTA : T.at 166 = some QDm := by kernel_rfl
theorem QRB : T.at 167 = some QC9 := by kernel_rfl
theorem QUa : T.at 168 = some QEg := by kernel_rfl
theorem QVg : T.at 169 = some QCb := by kernel_rfl
theorem QJe : T.at 170 = some QzJ := by kernel_rfl
theorem QSZ : T.at 171 = some QAG := by kernel_rfl
theorem QQj : T.at 172 = some QDl := by kernel_rfl
theorem QRd : T.at 173 = some QDq := by kernel_rfl
theorem QSx : T.at 174 = some QDG := by kernel_rfl
theorem QTZ : T.at 175 = some QDp := by kernel_rfl
theorem QU8 : T.at 176 = some QAF := by kernel_rfl
theorem QUV : T.at 177 = some QAI := by kernel_rfl
theorem QNF : T.at 178 = some QzK := by kernel_rfl
theorem QS0 : T.at 179 = some QDz := by kernel_rfl
theorem QUA : T.at 180 = some QC1 := by kernel_rfl
theorem QRg : T.at 181 = some QAX := by kernel_rfl
theorem a182 : T.at 182 = some QCQ := by kernel_rfl
theorem a183 : T.at 183 = some QAs := by kernel_rfl
theorem QKH : T.at 184 = some QxZ := by kernel_rfl
theorem QTi : T.at 185 = some QBL := by kernel_rfl
theorem QJA : T.at 186 = some Qyv := by kernel_rfl
theorem QUl : T.at 187 = some QBG := by kernel_rfl
theorem QNi : T.at 188 = some QyQ := by kernel_rfl
theorem QSp : T.at 189 = some n189 := by kernel_rfl
theorem QvG : T.at 190 = some QqH := by kernel_rfl
theorem QRv : T.at 191 = some QCd := by kernel_rfl
theorem QU2 : T.at 192 = some QDF := by kernel_rfl
theorem QSq : T.at 193 = some QAD := by kernel_rfl
theorem QUu : T.at 194 = some QAW := by kernel_rfl
theorem QOl : T.at 195 = some Qy2 := by kernel_rfl
theorem QTY : T.at 196 = some QA0 := by kernel_rfl
theorem QLB : T.at 197 = some QzC := by kernel_rfl
theorem QUd : T.at 198 = some QBj := by kernel_rfl
theorem QOt : T.at 199 = some Qw3 := by kernel_rfl
theorem QUD : T.at 200 = some QDT := by kernel_rfl
theorem QK8 : T.at 202 = some Qxq := by kernel_rfl
theorem QRq : T.at 203 = some QEb := by kernel_rfl
theorem QNe : T.at 206 = some Qxc := by kernel_rfl
theorem QTL : T.at 207 = some QBP := by kernel_rfl
theorem QR2 : T.at 208 = some QBg := by kernel_rfl
theorem QSU : T.at 209 = some QDS := by kernel_rfl
theorem QU0 : T.at 210 = some QDo := by kernel_rfl
theorem QUb : T.at 211 = some QDv := by kernel_rfl
theorem QTn : T.at 212 = some QDR := by kernel_rfl
theorem QQq : T.at 213 = some QDX := by kernel_rfl
theorem QQH : T.at 214 = some QDL := by kernel_rfl
theorem QR1 : T.at 215 = some QDu := by kernel_rfl
theorem QKu : T.at 216 = some Qxb := by kernel_rfl
theorem QQt : T.at 217 = some QD7 := by kernel_rfl
theorem QNy : T.at 220 = some QyS := by kernel_rfl
theorem QRi : T.at 221 = some QCv := by kernel_rfl
theorem a222 : T.at 222 = some Qwq := by kernel_rfl
theorem QFI : T.at 223 = some Qwk := by kernel_rfl
theorem QBR : T.at 224 = some Qtn := by kernel_rfl
theorem QOV : T.at 225 = some Qzn := by kernel_rfl
theorem QT0 : T.at 226 = some QDi := by kernel_rfl
theorem QAO : T.at 227 = some Qug := by kernel_rfl
theorem a228 : T.at 228 = some QDt := by kernel_rfl
theorem a229 : T.at 229 = some QAt := by kernel_rfl
theorem QKk : T.at 230 = some Qya := by kernel_rfl
theorem QOp : T.at 231 = some QxS := by kernel_rfl
theorem QIq : T.at 232 = some Qyd := by kernel_rfl
theorem QUm : T.at 233 = some QCu := by kernel_rfl
theorem QTV : T.at 234 = some QCJ := by kernel_rfl
theorem QKm : T.at 235 = some Qym := by kernel_rfl
theorem QKQ : T.at 236 = some Qz5 := by kernel_rfl
theorem QR8 : T.at 237 = some QBz := by kernel_rfl
theorem QQp : T.at 238 = some QD5 := by kernel_rfl
theorem QIi : T.at 239 = some Qzj := by kernel_rfl
theorem QRm : T.at 240 = some QDA := by kernel_rfl
theorem QId : T.at 241 = some QAc := by kernel_rfl
theorem QQh : T.at 242 = some QBI := by kernel_rfl
theorem QQl : T.at 243 = some QBf := by kernel_rfl
theorem QOz : T.at 247 = some Qyu := by kernel_rfl
theorem QUX : T.at 248 = some QAU := by kernel_rfl
theorem QVq : T.at 249 = some QBE := by kernel_rfl
theorem QSb : T.at 250 = some QBD := by kernel_rfl
theorem QPv : T.at 251 = some QzX := by kernel_rfl
theorem QOa : T.at 256 = some Qxa := by kernel_rfl
theorem QSX : T.at 257 = some QBy := by kernel_rfl
theorem QQM : T.at 258 = some QC6 := by kernel_rfl
theorem QUZ : T.at 259 = some QBK := by kernel_rfl
theorem QUM : T.at 260 = some QDI := by kernel_rfl
theorem QRD : T.at 261 = some QCj := by kernel_rfl
theorem QQP : T.at 262 = some QCw := by kernel_rfl
theorem QRx : T.at 263 = some QDn := by kernel_rfl
theorem QO0 : T.at 264 = some QzH := by kernel_rfl
theorem QNj : T.at 266 = some QxR := by kernel_rfl
theorem QSC : T.at 267 = some QCp := by kernel_rfl
theorem QSc : T.at 270 = some QCk := by kernel_rfl
theorem QPY : T.at 271 = some QBa := by kernel_rfl
theorem QU4 : T.at 274 = some QDH := by kernel_rfl
theorem QKG : T.at 275 = some QyG := by kernel_rfl
theorem QA9 : T.at 276 = some QtY := by kernel_rfl
theorem QSy : T.at 277 = some QAm := by kernel_rfl
theorem QSD : T.at 283 = some QCn := by kernel_rfl
theorem QHm : T.at 284 = some Qwc := by kernel_rfl
end Go.Proofs.YtcdffihcfeajfaaGreat
