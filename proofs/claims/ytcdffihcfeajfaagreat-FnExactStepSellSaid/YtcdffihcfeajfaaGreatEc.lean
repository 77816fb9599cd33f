import Derived.Test.YtcdffihcfeajfaaGreatEvB
import Derived.Test.YtcdffihcfeajfaaGreatFn
import Derived.Test.YtcdffihcfeajfaaGreatProg
import Derived.KernelRfl
namespace Go.Proofs.YtcdffihcfeajfaaGreat
open Go Go.Proofs Go.Proofs.YtcdffihcfeajfaaGreat.Am
set_option maxHeartbeats 4000000
set_option linter.unusedVariables false
set_option linter.unusedSimpArgs false
set_option linter.defProp false
set_option maxRecDepth 100000
def Qt (x : Int) : List AV := [.i .i64 x]
theorem QjJ (x : Int) : Qt x = [.i .i64 x] := _root_.id rfl
instance (x : Int) : EncR Qt [.i .i64 x] x := ⟨rfl⟩
theorem Qzu (xs : List Int) : QB (xs.map Qt) = xs.map Qt := QaI (fun x => by simp only [QjJ, Vh, VF]) xs
theorem Qzf (xs : List Int) : QO (xs.map Qt) = true := JZ (fun x => by simp only [QjJ, V6, AV.clean, Bool.and_self]) xs
theorem Qze {R : List (List AV)} {xs : List Int} (i : Int) [h : EncL Qt R xs] : inb R i = inb xs i := by rw [h.eq, Qpo]
theorem Qzt {R : List (List AV)} {xs : List Int} (i : Int) [h : EncL Qt R xs] (hi : inb xs i = true) : QF R i.toNat = Qt (gt xs i) := by rw [h.eq, Qo4 xs i hi]
theorem QAD (xs : List Int) : Qam (xs.map Qt) = true := Qkz (fun x => by rw [QjJ]; rfl) xs
def Qm7 (x : Int) : List AV := [.i .u8 x]
theorem QnH (x : Int) : Qm7 x = [.i .u8 x] := _root_.id rfl
instance (x : Int) : EncR Qm7 [.i .u8 x] x := ⟨rfl⟩
theorem QFX (xs : List Int) : QB (xs.map Qm7) = xs.map Qm7 := QaI (fun x => by simp only [QnH, Vh, VF]) xs
theorem QDD (xs : List Int) : QO (xs.map Qm7) = true := JZ (fun x => by simp only [QnH, V6, AV.clean, Bool.and_self]) xs
theorem QFB {R : List (List AV)} {xs : List Int} (i : Int) [h : EncL Qm7 R xs] : inb R i = inb xs i := by rw [h.eq, Qpo]
theorem QCy {R : List (List AV)} {xs : List Int} (i : Int) [h : EncL Qm7 R xs] (hi : inb xs i = true) : QF R i.toNat = Qm7 (gt xs i) := by rw [h.eq, Qo4 xs i hi]
theorem QHD (xs : List Int) : Qam (xs.map Qm7) = true := Qkz (fun x => by rw [QnH]; rfl) xs
def c_b (x : Bool) : List AV := [.b x]
theorem QrO (x : Bool) : c_b x = [.b x] := _root_.id rfl
instance (x : Bool) : EncR c_b [.b x] x := ⟨rfl⟩
theorem QOj (xs : List Bool) : QB (xs.map c_b) = xs.map c_b := QaI (fun x => by simp only [QrO, Vh, VF]) xs
theorem QMI (xs : List Bool) : QO (xs.map c_b) = true := JZ (fun x => by simp only [QrO, V6, AV.clean, Bool.and_self]) xs
theorem QL6 {R : List (List AV)} {xs : List Bool} (i : Int) [h : EncL c_b R xs] : inb R i = inb xs i := by rw [h.eq, Qpo]
theorem QQ2 {R : List (List AV)} {xs : List Bool} (i : Int) [h : EncL c_b R xs] (hi : inb xs i = true) : QF R i.toNat = c_b (gt xs i) := by rw [h.eq, Qo4 xs i hi]
theorem QOU (xs : List Bool) : Qam (xs.map c_b) = true := Qkz (fun x => by rw [QrO]; rfl) xs
def c_s (x : List UInt8) : List AV := [.s x]
theorem Qri (x : List UInt8) : c_s x = [.s x] := _root_.id rfl
instance (x : List UInt8) : EncR c_s [.s x] x := ⟨rfl⟩
theorem QK3 (xs : List (List UInt8)) : QB (xs.map c_s) = xs.map c_s := QaI (fun x => by simp only [Qri, Vh, VF]) xs
theorem QPP (xs : List (List UInt8)) : QO (xs.map c_s) = true := JZ (fun x => by simp only [Qri, V6, AV.clean, Bool.and_self]) xs
theorem QQa {R : List (List AV)} {xs : List (List UInt8)} (i : Int) [h : EncL c_s R xs] : inb R i = inb xs i := by rw [h.eq, Qpo]
theorem QPk {R : List (List AV)} {xs : List (List UInt8)} (i : Int) [h : EncL c_s R xs] (hi : inb xs i = true) : QF R i.toNat = c_s (gt xs i) := by rw [h.eq, Qo4 xs i hi]
theorem QON (xs : List (List UInt8)) : Qam (xs.map c_s) = true := Qkz (fun x => by rw [Qri]; rfl) xs
def QgB (x : Thing) : List AV := [.i .i64 x.Id, .i .i64 x.Kind, .i .i64 x.Colour, .i .i64 x.Size, .i .i64 x.Worth]
theorem QkM (x : Thing) : QgB x = [.i .i64 x.Id, .i .i64 x.Kind, .i .i64 x.Colour, .i .i64 x.Size, .i .i64 x.Worth] := _root_.id rfl
instance (yxId : Int) (yxKind : Int) (yxColour : Int) (yxSize : Int) (yxWorth : Int)  : EncR QgB [.i .i64 yxId, .i .i64 yxKind, .i .i64 yxColour, .i .i64 yxSize, .i .i64 yxWorth] (⟨yxId, yxKind, yxColour, yxSize, yxWorth⟩ : Thing) := ⟨by rfl⟩
theorem Qvc (xs : List Thing) : QB (xs.map QgB) = xs.map QgB := QaI (fun x => by simp only [QkM, Vh, VF]) xs
theorem QuV (xs : List Thing) : QO (xs.map QgB) = true := JZ (fun x => by simp only [QkM, V6, AV.clean, Bool.and_self]) xs
theorem Qur (x : Thing) : (⟨x.Id, x.Kind, x.Colour, x.Size, x.Worth⟩ : Thing) = x := _root_.id rfl
def Qp (x : Find) : List AV := [.i .i64 x.Thing.Id, .i .i64 x.Thing.Kind, .i .i64 x.Thing.Colour, .i .i64 x.Thing.Size, .i .i64 x.Thing.Worth, .i .i64 x.Place, .i .i64 x.At, .i .i64 x.Finder]
theorem QnG (x : Find) : Qp x = [.i .i64 x.Thing.Id, .i .i64 x.Thing.Kind, .i .i64 x.Thing.Colour, .i .i64 x.Thing.Size, .i .i64 x.Thing.Worth, .i .i64 x.Place, .i .i64 x.At, .i .i64 x.Finder] := _root_.id rfl
instance (yxThingxId : Int) (yxThingxKind : Int) (yxThingxColour : Int) (yxThingxSize : Int) (yxThingxWorth : Int) (yxPlace : Int) (yxAt : Int) (yxFinder : Int)  : EncR Qp [.i .i64 yxThingxId, .i .i64 yxThingxKind, .i .i64 yxThingxColour, .i .i64 yxThingxSize, .i .i64 yxThingxWorth, .i .i64 yxPlace, .i .i64 yxAt, .i .i64 yxFinder] (⟨⟨yxThingxId, yxThingxKind, yxThingxColour, yxThingxSize, yxThingxWorth⟩, yxPlace, yxAt, yxFinder⟩ : Find) := ⟨by rfl⟩
theorem QrJ (xs : List Find) : QB (xs.map Qp) = xs.map Qp := QaI (fun x => by simp only [QnG, Vh, VF]) xs
theorem Qq8 (xs : List Find) : QO (xs.map Qp) = true := JZ (fun x => by simp only [QnG, V6, AV.clean, Bool.and_self]) xs
theorem QvB (x : Find) : (⟨x.Thing, x.Place, x.At, x.Finder⟩ : Find) = x := _root_.id rfl
def Q4 (x : Mark) : List AV := [.i .i64 x.Question, .i .i64 x.Answer]
theorem Qno (x : Mark) : Q4 x = [.i .i64 x.Question, .i .i64 x.Answer] := _root_.id rfl
instance (yxQuestion : Int) (yxAnswer : Int)  : EncR Q4 [.i .i64 yxQuestion, .i .i64 yxAnswer] (⟨yxQuestion, yxAnswer⟩ : Mark) := ⟨by rfl⟩
theorem Qrk (xs : List Mark) : QB (xs.map Q4) = xs.map Q4 := QaI (fun x => by simp only [Qno, Vh, VF]) xs
theorem Qrq (xs : List Mark) : QO (xs.map Q4) = true := JZ (fun x => by simp only [Qno, V6, AV.clean, Bool.and_self]) xs
theorem Qxu (x : Mark) : (⟨x.Question, x.Answer⟩ : Mark) = x := _root_.id rfl
def Qe (x : Secret) : List AV := [.i .i64 x.Thing, .imm 2 (x.Marks.map Q4), .i .i64 x.Salt]
theorem QmA (x : Secret) : Qe x = [.i .i64 x.Thing, .imm 2 (x.Marks.map Q4), .i .i64 x.Salt] := _root_.id rfl
instance (yxThing : Int) {R1} {yxMarks : List Mark} (yxSalt : Int) [H1 : EncL Q4 R1 yxMarks] : EncR Qe [.i .i64 yxThing, .imm 2 R1, .i .i64 yxSalt] (⟨yxThing, yxMarks, yxSalt⟩ : Secret) := ⟨by obtain ⟨rfl⟩ := H1; rfl⟩
def QS (x : Secret) : List AV := [.i .i64 x.Thing, .own 2 (x.Marks.map Q4), .i .i64 x.Salt]
theorem Qgj (x : Secret) : QS x = [.i .i64 x.Thing, .own 2 (x.Marks.map Q4), .i .i64 x.Salt] := _root_.id rfl
instance (yxThing : Int) {R1} {yxMarks : List Mark} (yxSalt : Int) [H1 : EncL Q4 R1 yxMarks] : EncR QS [.i .i64 yxThing, .own 2 R1, .i .i64 yxSalt] (⟨yxThing, yxMarks, yxSalt⟩ : Secret) := ⟨by obtain ⟨rfl⟩ := H1; rfl⟩
theorem QmR (xs : List Secret) : QB (xs.map QS) = xs.map Qe := QaI (fun x => by simp only [Qgj, QmA, Vh, VF, Qrk]) xs
theorem QmH (xs : List Secret) : QO (xs.map QS) = true := JZ (fun x => by simp only [Qgj, V6, AV.clean, Bool.and_self, Qrq]) xs
theorem QsT (x : Secret) : (⟨x.Thing, x.Marks, x.Salt⟩ : Secret) = x := _root_.id rfl
def Qm (x : Slot) : List AV := [.i .i64 x.Id, .i .i64 x.Size, .i .i64 x.Thing]
theorem Qm1 (x : Slot) : Qm x = [.i .i64 x.Id, .i .i64 x.Size, .i .i64 x.Thing] := _root_.id rfl
instance (yxId : Int) (yxSize : Int) (yxThing : Int)  : EncR Qm [.i .i64 yxId, .i .i64 yxSize, .i .i64 yxThing] (⟨yxId, yxSize, yxThing⟩ : Slot) := ⟨by rfl⟩
theorem Qrl (xs : List Slot) : QB (xs.map Qm) = xs.map Qm := QaI (fun x => by simp only [Qm1, Vh, VF]) xs
theorem QrL (xs : List Slot) : QO (xs.map Qm) = true := JZ (fun x => by simp only [Qm1, V6, AV.clean, Bool.and_self]) xs
theorem QwE (x : Slot) : (⟨x.Id, x.Size, x.Thing⟩ : Slot) = x := _root_.id rfl
def Qc (x : Claim) : List AV := [.i .i64 x.Id, .i .i64 x.Who, .i .i64 x.Thing, .i .i64 x.At, .i .i64 x.State]
theorem QlB (x : Claim) : Qc x = [.i .i64 x.Id, .i .i64 x.Who, .i .i64 x.Thing, .i .i64 x.At, .i .i64 x.State] := _root_.id rfl
instance (yxId : Int) (yxWho : Int) (yxThing : Int) (yxAt : Int) (yxState : Int)  : EncR Qc [.i .i64 yxId, .i .i64 yxWho, .i .i64 yxThing, .i .i64 yxAt, .i .i64 yxState] (⟨yxId, yxWho, yxThing, yxAt, yxState⟩ : Claim) := ⟨by rfl⟩
theorem QoI (xs : List Claim) : QB (xs.map Qc) = xs.map Qc := QaI (fun x => by simp only [QlB, Vh, VF]) xs
theorem Qob (xs : List Claim) : QO (xs.map Qc) = true := JZ (fun x => by simp only [QlB, V6, AV.clean, Bool.and_self]) xs
theorem QuD (x : Claim) : (⟨x.Id, x.Who, x.Thing, x.At, x.State⟩ : Claim) = x := _root_.id rfl
def Qk (x : Trial) : List AV := [.i .i64 x.Claim, .i .i64 x.Asked, .i .i64 x.Right, .i .i64 x.Wrong]
theorem Qlo (x : Trial) : Qk x = [.i .i64 x.Claim, .i .i64 x.Asked, .i .i64 x.Right, .i .i64 x.Wrong] := _root_.id rfl
instance (yxClaim : Int) (yxAsked : Int) (yxRight : Int) (yxWrong : Int)  : EncR Qk [.i .i64 yxClaim, .i .i64 yxAsked, .i .i64 yxRight, .i .i64 yxWrong] (⟨yxClaim, yxAsked, yxRight, yxWrong⟩ : Trial) := ⟨by rfl⟩
theorem Qpa (xs : List Trial) : QB (xs.map Qk) = xs.map Qk := QaI (fun x => by simp only [Qlo, Vh, VF]) xs
theorem QoB (xs : List Trial) : QO (xs.map Qk) = true := JZ (fun x => by simp only [Qlo, V6, AV.clean, Bool.and_self]) xs
theorem Qu6 (x : Trial) : (⟨x.Claim, x.Asked, x.Right, x.Wrong⟩ : Trial) = x := _root_.id rfl
def Qn (x : Hand) : List AV := [.i .i64 x.Thing, .i .i64 x.Holder, .i .i64 x.Who, .i .i64 x.At, .i .i64 x.Seal]
theorem Qna (x : Hand) : Qn x = [.i .i64 x.Thing, .i .i64 x.Holder, .i .i64 x.Who, .i .i64 x.At, .i .i64 x.Seal] := _root_.id rfl
instance (yxThing : Int) (yxHolder : Int) (yxWho : Int) (yxAt : Int) (yxSeal : Int)  : EncR Qn [.i .i64 yxThing, .i .i64 yxHolder, .i .i64 yxWho, .i .i64 yxAt, .i .i64 yxSeal] (⟨yxThing, yxHolder, yxWho, yxAt, yxSeal⟩ : Hand) := ⟨by rfl⟩
theorem Qrw (xs : List Hand) : QB (xs.map Qn) = xs.map Qn := QaI (fun x => by simp only [Qna, Vh, VF]) xs
theorem Qrv (xs : List Hand) : QO (xs.map Qn) = true := JZ (fun x => by simp only [Qna, V6, AV.clean, Bool.and_self]) xs
theorem Qv8 (x : Hand) : (⟨x.Thing, x.Holder, x.Who, x.At, x.Seal⟩ : Hand) = x := _root_.id rfl
def Qh (x : Entry) : List AV := [.i .i64 x.From, .i .i64 x.To, .i .i64 x.Cents, .i .i64 x.At]
theorem Qj6 (x : Entry) : Qh x = [.i .i64 x.From, .i .i64 x.To, .i .i64 x.Cents, .i .i64 x.At] := _root_.id rfl
instance (yxFrom : Int) (yxTo : Int) (yxCents : Int) (yxAt : Int)  : EncR Qh [.i .i64 yxFrom, .i .i64 yxTo, .i .i64 yxCents, .i .i64 yxAt] (⟨yxFrom, yxTo, yxCents, yxAt⟩ : Entry) := ⟨by rfl⟩
theorem Qn7 (xs : List Entry) : QB (xs.map Qh) = xs.map Qh := QaI (fun x => by simp only [Qj6, Vh, VF]) xs
theorem Qpn (xs : List Entry) : QO (xs.map Qh) = true := JZ (fun x => by simp only [Qj6, V6, AV.clean, Bool.and_self]) xs
theorem QtY (x : Entry) : (⟨x.From, x.To, x.Cents, x.At⟩ : Entry) = x := _root_.id rfl
def QY (x : Bid) : List AV := [.i .i64 x.Who, .i .i64 x.Cents, .i .i64 x.Seal]
theorem Qnp (x : Bid) : QY x = [.i .i64 x.Who, .i .i64 x.Cents, .i .i64 x.Seal] := _root_.id rfl
instance (yxWho : Int) (yxCents : Int) (yxSeal : Int)  : EncR QY [.i .i64 yxWho, .i .i64 yxCents, .i .i64 yxSeal] (⟨yxWho, yxCents, yxSeal⟩ : Bid) := ⟨by rfl⟩
theorem QA4 (xs : List Bid) : QB (xs.map QY) = xs.map QY := QaI (fun x => by simp only [Qnp, Vh, VF]) xs
theorem Qzy (xs : List Bid) : QO (xs.map QY) = true := JZ (fun x => by simp only [Qnp, V6, AV.clean, Bool.and_self]) xs
theorem Qy3 (x : Bid) : (⟨x.Who, x.Cents, x.Seal⟩ : Bid) = x := _root_.id rfl
theorem QAJ (xs : List Bid) : Qam (xs.map QY) = true := Qkz (fun x => by rw [Qnp]; rfl) xs
def Qh0 (x : House) : List AV := [.i .i64 x.No, .imm 8 (x.Finds.map Qp), .imm 3 (x.Secrets.map Qe), .imm 3 (x.Slots.map Qm), .imm 5 (x.Claims.map Qc), .imm 4 (x.Trials.map Qk), .imm 5 (x.Chain.map Qn), .imm 4 (x.Book.map Qh), .i .i64 x.Now]
theorem QkK (x : House) : Qh0 x = [.i .i64 x.No, .imm 8 (x.Finds.map Qp), .imm 3 (x.Secrets.map Qe), .imm 3 (x.Slots.map Qm), .imm 5 (x.Claims.map Qc), .imm 4 (x.Trials.map Qk), .imm 5 (x.Chain.map Qn), .imm 4 (x.Book.map Qh), .i .i64 x.Now] := _root_.id rfl
instance (yxNo : Int) {R1} {yxFinds : List Find} {R2} {yxSecrets : List Secret} {R3} {yxSlots : List Slot} {R4} {yxClaims : List Claim} {R5} {yxTrials : List Trial} {R6} {yxChain : List Hand} {R7} {yxBook : List Entry} (yxNow : Int) [H1 : EncL Qp R1 yxFinds] [H2 : EncL Qe R2 yxSecrets] [H3 : EncL Qm R3 yxSlots] [H4 : EncL Qc R4 yxClaims] [H5 : EncL Qk R5 yxTrials] [H6 : EncL Qn R6 yxChain] [H7 : EncL Qh R7 yxBook] : EncR Qh0 [.i .i64 yxNo, .imm 8 R1, .imm 3 R2, .imm 3 R3, .imm 5 R4, .imm 4 R5, .imm 5 R6, .imm 4 R7, .i .i64 yxNow] (⟨yxNo, yxFinds, yxSecrets, yxSlots, yxClaims, yxTrials, yxChain, yxBook, yxNow⟩ : House) := ⟨by obtain ⟨rfl⟩ := H1; obtain ⟨rfl⟩ := H2; obtain ⟨rfl⟩ := H3; obtain ⟨rfl⟩ := H4; obtain ⟨rfl⟩ := H5; obtain ⟨rfl⟩ := H6; obtain ⟨rfl⟩ := H7; rfl⟩
def Z2 (x : House) : List AV := [.i .i64 x.No, .own 8 (x.Finds.map Qp), .own 3 (x.Secrets.map QS), .own 3 (x.Slots.map Qm), .own 5 (x.Claims.map Qc), .own 4 (x.Trials.map Qk), .own 5 (x.Chain.map Qn), .own 4 (x.Book.map Qh), .i .i64 x.Now]
theorem Qin (x : House) : Z2 x = [.i .i64 x.No, .own 8 (x.Finds.map Qp), .own 3 (x.Secrets.map QS), .own 3 (x.Slots.map Qm), .own 5 (x.Claims.map Qc), .own 4 (x.Trials.map Qk), .own 5 (x.Chain.map Qn), .own 4 (x.Book.map Qh), .i .i64 x.Now] := _root_.id rfl
instance (yxNo : Int) {R1} {yxFinds : List Find} {R2} {yxSecrets : List Secret} {R3} {yxSlots : List Slot} {R4} {yxClaims : List Claim} {R5} {yxTrials : List Trial} {R6} {yxChain : List Hand} {R7} {yxBook : List Entry} (yxNow : Int) [H1 : EncL Qp R1 yxFinds] [H2 : EncL QS R2 yxSecrets] [H3 : EncL Qm R3 yxSlots] [H4 : EncL Qc R4 yxClaims] [H5 : EncL Qk R5 yxTrials] [H6 : EncL Qn R6 yxChain] [H7 : EncL Qh R7 yxBook] : EncR Z2 [.i .i64 yxNo, .own 8 R1, .own 3 R2, .own 3 R3, .own 5 R4, .own 4 R5, .own 5 R6, .own 4 R7, .i .i64 yxNow] (⟨yxNo, yxFinds, yxSecrets, yxSlots, yxClaims, yxTrials, yxChain, yxBook, yxNow⟩ : House) := ⟨by obtain ⟨rfl⟩ := H1; obtain ⟨rfl⟩ := H2; obtain ⟨rfl⟩ := H3; obtain ⟨rfl⟩ := H4; obtain ⟨rfl⟩ := H5; obtain ⟨rfl⟩ := H6; obtain ⟨rfl⟩ := H7; rfl⟩
theorem Qtf (xs : List House) : QB (xs.map Z2) = xs.map Qh0 := QaI (fun x => by simp only [Qin, QkK, Vh, VF, QoI, Qn7, QrJ, Qrw, QmR, Qrl, Qpa]) xs
theorem QuT (xs : List House) : QO (xs.map Z2) = true := JZ (fun x => by simp only [Qin, V6, AV.clean, Bool.and_self, Qob, Qpn, Qq8, Qrv, QmH, QrL, QoB]) xs
theorem QuW (x : House) : (⟨x.No, x.Finds, x.Secrets, x.Slots, x.Claims, x.Trials, x.Chain, x.Book, x.Now⟩ : House) = x := _root_.id rfl
def Qgv (x : Share) : List AV := [.i .i64 x.Who, .i .i64 x.Cents]
theorem Qlp (x : Share) : Qgv x = [.i .i64 x.Who, .i .i64 x.Cents] := _root_.id rfl
instance (yxWho : Int) (yxCents : Int)  : EncR Qgv [.i .i64 yxWho, .i .i64 yxCents] (⟨yxWho, yxCents⟩ : Share) := ⟨by rfl⟩
theorem QtW (xs : List Share) : QB (xs.map Qgv) = xs.map Qgv := QaI (fun x => by simp only [Qlp, Vh, VF]) xs
theorem Qvi (xs : List Share) : QO (xs.map Qgv) = true := JZ (fun x => by simp only [Qlp, V6, AV.clean, Bool.and_self]) xs
theorem Quz (x : Share) : (⟨x.Who, x.Cents⟩ : Share) = x := _root_.id rfl
def QI8 := And.intro @QjJ <| And.intro @Qzu <| And.intro @Qzf <| And.intro @Qze <| And.intro @Qzt <| And.intro @QAD <| And.intro @QnH <| And.intro @QFX <| And.intro @QDD <| And.intro @QFB <| And.intro @QCy <| And.intro @QHD <| And.intro @QrO <| And.intro @QOj <| And.intro @QMI <| And.intro @QL6 <| And.intro @QQ2 <| And.intro @QOU <| And.intro @Qri <| And.intro @QK3 <| And.intro @QPP <| And.intro @QQa <| And.intro @QPk <| And.intro @QON <| And.intro @QkM <| And.intro @Qvc <| And.intro @QuV <| And.intro @Qur <| And.intro @QnG <| And.intro @QrJ <| And.intro @Qq8 <| And.intro @QvB <| And.intro @Qno <| And.intro @Qrk <| And.intro @Qrq <| And.intro @Qxu <| And.intro @QmA <| And.intro @QmR <| And.intro @QmH <| And.intro @QsT <| And.intro @Qgj <| And.intro @Qm1 <| And.intro @Qrl <| And.intro @QrL <| And.intro @QwE <| And.intro @QlB <| And.intro @QoI <| And.intro @Qob <| And.intro @QuD <| And.intro @Qlo <| And.intro @Qpa <| And.intro @QoB <| And.intro @Qu6 <| And.intro @Qna <| And.intro @Qrw <| And.intro @Qrv <| And.intro @Qv8 <| And.intro @Qj6 <| And.intro @Qn7 <| And.intro @Qpn <| And.intro @QtY <| And.intro @Qnp <| And.intro @QA4 <| And.intro @Qzy <| And.intro @Qy3 <| And.intro @QAJ <| And.intro @QkK <| And.intro @Qtf <| And.intro @QuT <| And.intro @QuW <| And.intro @Qin <| And.intro @Qlp <| And.intro @QtW <| And.intro @Qvi @Quz
theorem ty0 : flT Tryz.prog 160 = false := by kernel_rfl
theorem ty1 : Qdr Tryz.prog 24 = true := by kernel_rfl
theorem ty2 : Qdr Tryz.prog 26 = true := by kernel_rfl
theorem ty3 : Qdr Tryz.prog 27 = true := by kernel_rfl
theorem ty4 : Qdr Tryz.prog 28 = true := by kernel_rfl
theorem ty5 : Qdr Tryz.prog 29 = true := by kernel_rfl
theorem ty6 : Qdr Tryz.prog 30 = true := by kernel_rfl
theorem ty7 : Qdr Tryz.prog 68 = true := by kernel_rfl
theorem ty8 : Qdr Tryz.prog 76 = true := by kernel_rfl
theorem ty9 : slz Tryz.prog 9 160 = [0, 2, 0] := by kernel_rfl
theorem QOa : Qdd Tryz.prog 175 = [0, 0] := by kernel_rfl
theorem QPl : Qdd Tryz.prog 215 = [0] := by kernel_rfl
theorem QQy : Qdd Tryz.prog 237 = [0] := by kernel_rfl
theorem QOK : Qdd Tryz.prog 24 = [0, 0, 0, 0, 0, 0, 0, 0] := by kernel_rfl
theorem QP0 : Qdd Tryz.prog 25 = [0, 2, 0] := by kernel_rfl
theorem QLE : Qdd Tryz.prog 26 = [0, 0, 0] := by kernel_rfl
theorem QPS : Qdd Tryz.prog 27 = [0, 0, 0, 0, 0] := by kernel_rfl
theorem QNv : Qdd Tryz.prog 28 = [0, 0, 0, 0] := by kernel_rfl
theorem QRe : Qdd Tryz.prog 29 = [0, 0, 0, 0, 0] := by kernel_rfl
theorem QKL : Qdd Tryz.prog 30 = [0, 0, 0, 0] := by kernel_rfl
theorem QPJ : Qdd Tryz.prog 68 = [0, 0] := by kernel_rfl
theorem QQu : Qdd Tryz.prog 76 = [0, 0, 0] := by kernel_rfl
theorem QKT : tb Tryz.prog 103 = some 24 := by kernel_rfl
theorem QNQ : tb Tryz.prog 136 = some 40 := by kernel_rfl
theorem QP3 : tb Tryz.prog 139 = some 32 := by kernel_rfl
theorem QQw : tb Tryz.prog 153 = some 32 := by kernel_rfl
theorem QMn : tb Tryz.prog 160 = some 40 := by kernel_rfl
theorem QM8 : tb Tryz.prog 166 = some 40 := by kernel_rfl
theorem QO6 : tb Tryz.prog 169 = some 16 := by kernel_rfl
theorem QMc : tb Tryz.prog 180 = some 24 := by kernel_rfl
theorem QLW : tb Tryz.prog 3 = some 8 := by kernel_rfl
theorem QPw : tb Tryz.prog 66 = some 64 := by kernel_rfl
theorem QNT : tbd Tryz.prog 136 = .st [.i .i64 0, .i .i64 0, .i .i64 0, .i .i64 0, .i .i64 0] [(0, 1), (1, 1), (2, 1), (3, 1), (4, 1)] := by kernel_rfl
theorem QLI : tbd Tryz.prog 153 = .st [.i .i64 0, .i .i64 0, .i .i64 0, .i .i64 0] [(0, 1), (1, 1), (2, 1), (3, 1)] := by kernel_rfl
theorem QQj : tbd Tryz.prog 160 = .st [.i .i64 0, .nil, .i .i64 0] [(0, 1), (1, 1), (2, 1)] := by kernel_rfl
theorem QPB : tbd Tryz.prog 166 = .st [.i .i64 0, .i .i64 0, .i .i64 0, .i .i64 0, .i .i64 0] [(0, 1), (1, 1), (2, 1), (3, 1), (4, 1)] := by kernel_rfl
theorem QPn : tbd Tryz.prog 178 = .st [.i .i64 0, .i .i64 0] [(0, 1), (1, 1)] := by kernel_rfl
theorem QOM : tbd Tryz.prog 32 = .st [.i .i64 0, .nil, .nil, .nil, .nil, .nil, .nil, .nil, .i .i64 0] [(0, 1), (1, 1), (2, 1), (3, 1), (4, 1), (5, 1), (6, 1), (7, 1), (8, 1)] := by kernel_rfl
theorem QL7 : tbd Tryz.prog 66 = .st [.i .i64 0, .i .i64 0, .i .i64 0, .i .i64 0, .i .i64 0, .i .i64 0, .i .i64 0, .i .i64 0] [(0, 5), (5, 1), (6, 1), (7, 1)] := by kernel_rfl
theorem QNp : Qjh Tryz.prog 4 = some [.t] := by kernel_rfl
theorem QNP : tfo Tryz.prog 103 0 = some (0, .one) := by kernel_rfl
theorem QQh : tfo Tryz.prog 103 1 = some (1, .one) := by kernel_rfl
theorem QMl : tfo Tryz.prog 103 2 = some (2, .one) := by kernel_rfl
theorem QOi : tfo Tryz.prog 105 0 = some (0, .one) := by kernel_rfl
theorem QLr : tfo Tryz.prog 105 1 = some (1, .one) := by kernel_rfl
theorem QKO : tfo Tryz.prog 105 2 = some (2, .one) := by kernel_rfl
theorem QPp : tfo Tryz.prog 136 0 = some (0, .one) := by kernel_rfl
theorem QN2 : tfo Tryz.prog 136 1 = some (1, .one) := by kernel_rfl
theorem QLX : tfo Tryz.prog 136 2 = some (2, .one) := by kernel_rfl
theorem QMD : tfo Tryz.prog 136 3 = some (3, .one) := by kernel_rfl
theorem QQI : tfo Tryz.prog 136 4 = some (4, .one) := by kernel_rfl
theorem QM9 : tfo Tryz.prog 139 0 = some (0, .one) := by kernel_rfl
theorem QPa : tfo Tryz.prog 139 1 = some (1, .one) := by kernel_rfl
theorem QLN : tfo Tryz.prog 139 2 = some (2, .one) := by kernel_rfl
theorem QNB : tfo Tryz.prog 139 3 = some (3, .one) := by kernel_rfl
theorem QNC : tfo Tryz.prog 153 0 = some (0, .one) := by kernel_rfl
theorem QQA : tfo Tryz.prog 153 1 = some (1, .one) := by kernel_rfl
theorem QPG : tfo Tryz.prog 153 2 = some (2, .one) := by kernel_rfl
theorem QPm : tfo Tryz.prog 153 3 = some (3, .one) := by kernel_rfl
theorem QNu : tfo Tryz.prog 160 0 = some (0, .one) := by kernel_rfl
theorem QOH : tfo Tryz.prog 160 1 = some (1, .one) := by kernel_rfl
theorem QNX : tfo Tryz.prog 160 2 = some (2, .one) := by kernel_rfl
theorem QKW : tfo Tryz.prog 166 0 = some (0, .one) := by kernel_rfl
theorem QO1 : tfo Tryz.prog 166 1 = some (1, .one) := by kernel_rfl
theorem QM1 : tfo Tryz.prog 166 2 = some (2, .one) := by kernel_rfl
theorem QND : tfo Tryz.prog 166 3 = some (3, .one) := by kernel_rfl
theorem QOW : tfo Tryz.prog 166 4 = some (4, .one) := by kernel_rfl
theorem QQ4 : tfo Tryz.prog 169 0 = some (0, .one) := by kernel_rfl
theorem QPZ : tfo Tryz.prog 169 1 = some (1, .one) := by kernel_rfl
theorem QKX : tfo Tryz.prog 171 0 = some (0, .one) := by kernel_rfl
theorem QOt : tfo Tryz.prog 171 1 = some (1, .one) := by kernel_rfl
theorem QNs : tfo Tryz.prog 178 0 = some (0, .one) := by kernel_rfl
theorem QNM : tfo Tryz.prog 178 1 = some (1, .one) := by kernel_rfl
theorem QLl : tfo Tryz.prog 180 0 = some (0, .one) := by kernel_rfl
theorem QK8 : tfo Tryz.prog 180 1 = some (1, .one) := by kernel_rfl
theorem QLj : tfo Tryz.prog 180 2 = some (2, .one) := by kernel_rfl
theorem QQb : tfo Tryz.prog 182 0 = some (0, .one) := by kernel_rfl
theorem QMV : tfo Tryz.prog 182 1 = some (1, .one) := by kernel_rfl
theorem QLe : tfo Tryz.prog 182 2 = some (2, .one) := by kernel_rfl
theorem QQ1 : tfo Tryz.prog 200 0 = some (0, .one) := by kernel_rfl
theorem QQ5 : tfo Tryz.prog 200 1 = some (1, .one) := by kernel_rfl
theorem QLC : tfo Tryz.prog 200 2 = some (2, .one) := by kernel_rfl
theorem QQD : tfo Tryz.prog 203 0 = some (0, .one) := by kernel_rfl
theorem QMo : tfo Tryz.prog 203 1 = some (1, .one) := by kernel_rfl
theorem QOr : tfo Tryz.prog 203 2 = some (2, .one) := by kernel_rfl
theorem QL0 : tfo Tryz.prog 203 3 = some (3, .one) := by kernel_rfl
theorem QMJ : tfo Tryz.prog 203 4 = some (4, .one) := by kernel_rfl
theorem QQo : tfo Tryz.prog 205 0 = some (0, .one) := by kernel_rfl
theorem QOC : tfo Tryz.prog 205 1 = some (1, .one) := by kernel_rfl
theorem QMK : tfo Tryz.prog 205 2 = some (2, .one) := by kernel_rfl
theorem QKM : tfo Tryz.prog 205 3 = some (3, .one) := by kernel_rfl
theorem QLs : tfo Tryz.prog 207 0 = some (0, .one) := by kernel_rfl
theorem QMz : tfo Tryz.prog 207 1 = some (1, .one) := by kernel_rfl
theorem QOY : tfo Tryz.prog 207 2 = some (2, .one) := by kernel_rfl
theorem QQR : tfo Tryz.prog 207 3 = some (3, .one) := by kernel_rfl
theorem QNo : tfo Tryz.prog 207 4 = some (4, .one) := by kernel_rfl
theorem QMT : tfo Tryz.prog 209 0 = some (0, .one) := by kernel_rfl
theorem QNr : tfo Tryz.prog 209 1 = some (1, .one) := by kernel_rfl
theorem QQ3 : tfo Tryz.prog 209 2 = some (2, .one) := by kernel_rfl
theorem QNb : tfo Tryz.prog 209 3 = some (3, .one) := by kernel_rfl
theorem QI0 : tfo Tryz.prog 32 0 = some (0, .one) := by kernel_rfl
theorem QCP : tfo Tryz.prog 32 1 = some (1, .one) := by kernel_rfl
theorem QEc : tfo Tryz.prog 32 2 = some (2, .one) := by kernel_rfl
theorem QFP : tfo Tryz.prog 32 3 = some (3, .one) := by kernel_rfl
theorem QFK : tfo Tryz.prog 32 4 = some (4, .one) := by kernel_rfl
theorem QBB : tfo Tryz.prog 32 5 = some (5, .one) := by kernel_rfl
theorem QI1 : tfo Tryz.prog 32 6 = some (6, .one) := by kernel_rfl
theorem QII : tfo Tryz.prog 32 7 = some (7, .one) := by kernel_rfl
theorem QBv : tfo Tryz.prog 32 8 = some (8, .one) := by kernel_rfl
theorem QGF : tfo Tryz.prog 48 0 = some (0, .one) := by kernel_rfl
theorem QBJ : tfo Tryz.prog 48 1 = some (1, .one) := by kernel_rfl
theorem QJD : tfo Tryz.prog 48 2 = some (2, .one) := by kernel_rfl
theorem QKu : tfo Tryz.prog 48 3 = some (3, .one) := by kernel_rfl
theorem QHj : tfo Tryz.prog 48 4 = some (4, .one) := by kernel_rfl
theorem QKn : tfo Tryz.prog 48 5 = some (5, .one) := by kernel_rfl
theorem QBH : tfo Tryz.prog 48 6 = some (6, .one) := by kernel_rfl
theorem QDa : tfo Tryz.prog 48 7 = some (7, .one) := by kernel_rfl
theorem QGV : tfo Tryz.prog 48 8 = some (8, .one) := by kernel_rfl
theorem QGq : tfo Tryz.prog 58 0 = some (0, .one) := by kernel_rfl
theorem QEF : tfo Tryz.prog 58 1 = some (1, .one) := by kernel_rfl
theorem QJa : tfo Tryz.prog 58 2 = some (2, .one) := by kernel_rfl
theorem QKk : tfo Tryz.prog 58 3 = some (3, .one) := by kernel_rfl
theorem QBZ : tfo Tryz.prog 58 4 = some (4, .one) := by kernel_rfl
theorem QFg : tfo Tryz.prog 60 0 = some (0, .agg 5) := by kernel_rfl
theorem QIk : tfo Tryz.prog 60 1 = some (5, .one) := by kernel_rfl
theorem QCW : tfo Tryz.prog 60 2 = some (6, .one) := by kernel_rfl
theorem QIL : tfo Tryz.prog 60 3 = some (7, .one) := by kernel_rfl
theorem QFl : tfo Tryz.prog 64 0 = some (0, .one) := by kernel_rfl
theorem QFe : tfo Tryz.prog 64 1 = some (1, .one) := by kernel_rfl
theorem QEA : tfo Tryz.prog 64 2 = some (2, .one) := by kernel_rfl
theorem QHO : tfo Tryz.prog 64 3 = some (3, .one) := by kernel_rfl
theorem QKe : tfo Tryz.prog 64 4 = some (4, .one) := by kernel_rfl
theorem QEk : tfo Tryz.prog 66 0 = some (0, .agg 5) := by kernel_rfl
theorem QHl : tfo Tryz.prog 66 1 = some (5, .one) := by kernel_rfl
theorem QE3 : tfo Tryz.prog 66 2 = some (6, .one) := by kernel_rfl
theorem QKi : tfo Tryz.prog 66 3 = some (7, .one) := by kernel_rfl
theorem QCM : ti Tryz.prog 175 = .sl 178 2 := by kernel_rfl
theorem QIX : ti Tryz.prog 215 = .sl 4 1 := by kernel_rfl
theorem QH3 : ti Tryz.prog 22 = .sl 105 3 := by kernel_rfl
theorem QKA : ti Tryz.prog 237 = .sl 3 1 := by kernel_rfl
theorem QDp : ti Tryz.prog 24 = .sl 66 8 := by kernel_rfl
theorem QIu : ti Tryz.prog 25 = .sl 160 3 := by kernel_rfl
theorem QCg : ti Tryz.prog 26 = .sl 103 3 := by kernel_rfl
theorem QBN : ti Tryz.prog 27 = .sl 136 5 := by kernel_rfl
theorem QFj : ti Tryz.prog 28 = .sl 139 4 := by kernel_rfl
theorem QHJ : ti Tryz.prog 29 = .sl 166 5 := by kernel_rfl
theorem QCB : ti Tryz.prog 30 = .sl 153 4 := by kernel_rfl
theorem QIt : ti Tryz.prog 41 = .sl 60 8 := by kernel_rfl
theorem QEU : ti Tryz.prog 42 = .sl 200 3 := by kernel_rfl
theorem QIh : ti Tryz.prog 43 = .sl 203 5 := by kernel_rfl
theorem QJ6 : ti Tryz.prog 44 = .sl 205 4 := by kernel_rfl
theorem QEN : ti Tryz.prog 45 = .sl 207 5 := by kernel_rfl
theorem QJw : ti Tryz.prog 46 = .sl 209 4 := by kernel_rfl
theorem QCJ : ti Tryz.prog 61 = .sl 171 2 := by kernel_rfl
theorem QGU : ti Tryz.prog 68 = .sl 169 2 := by kernel_rfl
theorem QEY : ti Tryz.prog 73 = .sl 182 3 := by kernel_rfl
theorem QCb : ti Tryz.prog 76 = .sl 180 3 := by kernel_rfl
theorem QFy : tk Tryz.prog 103 = .agg 3 := by kernel_rfl
theorem QFr : tk Tryz.prog 105 = .agg 3 := by kernel_rfl
theorem QFJ : tk Tryz.prog 136 = .agg 5 := by kernel_rfl
theorem QJk : tk Tryz.prog 139 = .agg 4 := by kernel_rfl
theorem QGk : tk Tryz.prog 153 = .agg 4 := by kernel_rfl
theorem QGr : tk Tryz.prog 160 = .agg 3 := by kernel_rfl
theorem QIi : tk Tryz.prog 166 = .agg 5 := by kernel_rfl
theorem QHy : tk Tryz.prog 169 = .agg 2 := by kernel_rfl
theorem QFW : tk Tryz.prog 171 = .agg 2 := by kernel_rfl
theorem QBS : tk Tryz.prog 180 = .agg 3 := by kernel_rfl
theorem QIz : tk Tryz.prog 182 = .agg 3 := by kernel_rfl
theorem QKp : tk Tryz.prog 200 = .agg 3 := by kernel_rfl
theorem QGw : tk Tryz.prog 203 = .agg 5 := by kernel_rfl
theorem QJp : tk Tryz.prog 205 = .agg 4 := by kernel_rfl
theorem QC0 : tk Tryz.prog 207 = .agg 5 := by kernel_rfl
theorem QIr : tk Tryz.prog 209 = .agg 4 := by kernel_rfl
theorem QHv : tk Tryz.prog 22 = .one := by kernel_rfl
theorem QIm : tk Tryz.prog 24 = .one := by kernel_rfl
theorem QJT : tk Tryz.prog 25 = .one := by kernel_rfl
theorem QEP : tk Tryz.prog 26 = .one := by kernel_rfl
theorem QEf : tk Tryz.prog 27 = .one := by kernel_rfl
theorem QCT : tk Tryz.prog 28 = .one := by kernel_rfl
theorem QFv : tk Tryz.prog 29 = .one := by kernel_rfl
theorem QC4 : tk Tryz.prog 3 = .one := by kernel_rfl
theorem QJ9 : tk Tryz.prog 30 = .one := by kernel_rfl
theorem QKc : tk Tryz.prog 32 = .agg 9 := by kernel_rfl
theorem QEv : tk Tryz.prog 4 = .one := by kernel_rfl
theorem QFI : tk Tryz.prog 41 = .one := by kernel_rfl
theorem QEy : tk Tryz.prog 42 = .one := by kernel_rfl
theorem QC7 : tk Tryz.prog 43 = .one := by kernel_rfl
theorem QH8 : tk Tryz.prog 44 = .one := by kernel_rfl
theorem QHW : tk Tryz.prog 45 = .one := by kernel_rfl
theorem QFF : tk Tryz.prog 46 = .one := by kernel_rfl
theorem QB6 : tk Tryz.prog 48 = .agg 9 := by kernel_rfl
theorem QIj : tk Tryz.prog 58 = .agg 5 := by kernel_rfl
theorem QH4 : tk Tryz.prog 60 = .agg 8 := by kernel_rfl
theorem QJx : tk Tryz.prog 61 = .one := by kernel_rfl
theorem QCj : tk Tryz.prog 64 = .agg 5 := by kernel_rfl
theorem QDk : tk Tryz.prog 66 = .agg 8 := by kernel_rfl
theorem QEZ : tk Tryz.prog 68 = .one := by kernel_rfl
theorem QHu : Qaj Tryz.prog 237 = true := by kernel_rfl
theorem QFU : Qaj Tryz.prog 24 = true := by kernel_rfl
theorem QDd : Qaj Tryz.prog 25 = true := by kernel_rfl
theorem QFi : Qaj Tryz.prog 26 = true := by kernel_rfl
theorem QJu : Qaj Tryz.prog 27 = true := by kernel_rfl
theorem QCU : Qaj Tryz.prog 28 = true := by kernel_rfl
theorem QDc : Qaj Tryz.prog 29 = true := by kernel_rfl
theorem QFO : Qaj Tryz.prog 30 = true := by kernel_rfl
theorem QDl : Qaj Tryz.prog 68 = true := by kernel_rfl
theorem QEL : Qaj Tryz.prog 76 = true := by kernel_rfl
theorem QDm : tse Tryz.prog 175 = some (178, 2, [.i .i64 0, .i .i64 0]) := by kernel_rfl
theorem QDK : tse Tryz.prog 215 = some (4, 1, [.b false]) := by kernel_rfl
theorem QF2 : tse Tryz.prog 237 = some (3, 1, [.i .i64 0]) := by kernel_rfl
theorem QJi : tse Tryz.prog 24 = some (66, 8, [.i .i64 0, .i .i64 0, .i .i64 0, .i .i64 0, .i .i64 0, .i .i64 0, .i .i64 0, .i .i64 0]) := by kernel_rfl
theorem QIK : tse Tryz.prog 25 = some (160, 3, [.i .i64 0, .nil, .i .i64 0]) := by kernel_rfl
theorem QFm : tse Tryz.prog 26 = some (103, 3, [.i .i64 0, .i .i64 0, .i .i64 0]) := by kernel_rfl
theorem QJA : tse Tryz.prog 27 = some (136, 5, [.i .i64 0, .i .i64 0, .i .i64 0, .i .i64 0, .i .i64 0]) := by kernel_rfl
theorem QDe : tse Tryz.prog 28 = some (139, 4, [.i .i64 0, .i .i64 0, .i .i64 0, .i .i64 0]) := by kernel_rfl
theorem QGj : tse Tryz.prog 29 = some (166, 5, [.i .i64 0, .i .i64 0, .i .i64 0, .i .i64 0, .i .i64 0]) := by kernel_rfl
theorem QJZ : tse Tryz.prog 30 = some (153, 4, [.i .i64 0, .i .i64 0, .i .i64 0, .i .i64 0]) := by kernel_rfl
theorem QIq : tse Tryz.prog 68 = some (169, 2, [.i .i64 0, .i .i64 0]) := by kernel_rfl
theorem QD2 : tse Tryz.prog 76 = some (180, 3, [.i .i64 0, .i .i64 0, .i .i64 0]) := by kernel_rfl
theorem QGz : tzc Tryz.prog 103 = some [.i .i64 0, .i .i64 0, .i .i64 0] := by kernel_rfl
theorem QKs : tzc Tryz.prog 136 = some [.i .i64 0, .i .i64 0, .i .i64 0, .i .i64 0, .i .i64 0] := by kernel_rfl
theorem QBQ : tzc Tryz.prog 139 = some [.i .i64 0, .i .i64 0, .i .i64 0, .i .i64 0] := by kernel_rfl
theorem QDu : tzc Tryz.prog 153 = some [.i .i64 0, .i .i64 0, .i .i64 0, .i .i64 0] := by kernel_rfl
theorem QFh : tzc Tryz.prog 160 = some [.i .i64 0, .nil, .i .i64 0] := by kernel_rfl
theorem QBG : tzc Tryz.prog 166 = some [.i .i64 0, .i .i64 0, .i .i64 0, .i .i64 0, .i .i64 0] := by kernel_rfl
theorem QIZ : tzc Tryz.prog 169 = some [.i .i64 0, .i .i64 0] := by kernel_rfl
theorem QFM : tzc Tryz.prog 180 = some [.i .i64 0, .i .i64 0, .i .i64 0] := by kernel_rfl
theorem QBq : tzc Tryz.prog 32 = some [.i .i64 0, .nil, .nil, .nil, .nil, .nil, .nil, .nil, .i .i64 0] := by kernel_rfl
theorem QBU : tzc Tryz.prog 64 = some [.i .i64 0, .i .i64 0, .i .i64 0, .i .i64 0, .i .i64 0] := by kernel_rfl
theorem QIw : tzc Tryz.prog 66 = some [.i .i64 0, .i .i64 0, .i .i64 0, .i .i64 0, .i .i64 0, .i .i64 0, .i .i64 0, .i .i64 0] := by kernel_rfl
def tys := And.intro @ty0 <| And.intro @ty1 <| And.intro @ty2 <| And.intro @ty3 <| And.intro @ty4 <| And.intro @ty5 <| And.intro @ty6 <| And.intro @ty7 <| And.intro @ty8 <| And.intro @ty9 <| And.intro @QOa <| And.intro @QPl <| And.intro @QQy <| And.intro @QOK <| And.intro @QP0 <| And.intro @QLE <| And.intro @QPS <| And.intro @QNv <| And.intro @QRe <| And.intro @QKL <| And.intro @QPJ <| And.intro @QQu <| And.intro @QKT <| And.intro @QNQ <| And.intro @QP3 <| And.intro @QQw <| And.intro @QMn <| And.intro @QM8 <| And.intro @QO6 <| And.intro @QMc <| And.intro @QLW <| And.intro @QPw <| And.intro @QNT <| And.intro @QLI <| And.intro @QQj <| And.intro @QPB <| And.intro @QPn <| And.intro @QOM <| And.intro @QL7 <| And.intro @QNp <| And.intro @QNP <| And.intro @QQh <| And.intro @QMl <| And.intro @QOi <| And.intro @QLr <| And.intro @QKO <| And.intro @QPp <| And.intro @QN2 <| And.intro @QLX <| And.intro @QMD <| And.intro @QQI <| And.intro @QM9 <| And.intro @QPa <| And.intro @QLN <| And.intro @QNB <| And.intro @QNC <| And.intro @QQA <| And.intro @QPG <| And.intro @QPm <| And.intro @QNu <| And.intro @QOH <| And.intro @QNX <| And.intro @QKW <| And.intro @QO1 <| And.intro @QM1 <| And.intro @QND <| And.intro @QOW <| And.intro @QQ4 <| And.intro @QPZ <| And.intro @QKX <| And.intro @QOt <| And.intro @QNs <| And.intro @QNM <| And.intro @QLl <| And.intro @QK8 <| And.intro @QLj <| And.intro @QQb <| And.intro @QMV <| And.intro @QLe <| And.intro @QQ1 <| And.intro @QQ5 <| And.intro @QLC <| And.intro @QQD <| And.intro @QMo <| And.intro @QOr <| And.intro @QL0 <| And.intro @QMJ <| And.intro @QQo <| And.intro @QOC <| And.intro @QMK <| And.intro @QKM <| And.intro @QLs <| And.intro @QMz <| And.intro @QOY <| And.intro @QQR <| And.intro @QNo <| And.intro @QMT <| And.intro @QNr <| And.intro @QQ3 <| And.intro @QNb <| And.intro @QI0 <| And.intro @QCP <| And.intro @QEc <| And.intro @QFP <| And.intro @QFK <| And.intro @QBB <| And.intro @QI1 <| And.intro @QII <| And.intro @QBv <| And.intro @QGF <| And.intro @QBJ <| And.intro @QJD <| And.intro @QKu <| And.intro @QHj <| And.intro @QKn <| And.intro @QBH <| And.intro @QDa <| And.intro @QGV <| And.intro @QGq <| And.intro @QEF <| And.intro @QJa <| And.intro @QKk <| And.intro @QBZ <| And.intro @QFg <| And.intro @QIk <| And.intro @QCW <| And.intro @QIL <| And.intro @QFl <| And.intro @QFe <| And.intro @QEA <| And.intro @QHO <| And.intro @QKe <| And.intro @QEk <| And.intro @QHl <| And.intro @QE3 <| And.intro @QKi <| And.intro @QCM <| And.intro @QIX <| And.intro @QH3 <| And.intro @QKA <| And.intro @QDp <| And.intro @QIu <| And.intro @QCg <| And.intro @QBN <| And.intro @QFj <| And.intro @QHJ <| And.intro @QCB <| And.intro @QIt <| And.intro @QEU <| And.intro @QIh <| And.intro @QJ6 <| And.intro @QEN <| And.intro @QJw <| And.intro @QCJ <| And.intro @QGU <| And.intro @QEY <| And.intro @QCb <| And.intro @QFy <| And.intro @QFr <| And.intro @QFJ <| And.intro @QJk <| And.intro @QGk <| And.intro @QGr <| And.intro @QIi <| And.intro @QHy <| And.intro @QFW <| And.intro @QBS <| And.intro @QIz <| And.intro @QKp <| And.intro @QGw <| And.intro @QJp <| And.intro @QC0 <| And.intro @QIr <| And.intro @QHv <| And.intro @QIm <| And.intro @QJT <| And.intro @QEP <| And.intro @QEf <| And.intro @QCT <| And.intro @QFv <| And.intro @QC4 <| And.intro @QJ9 <| And.intro @QKc <| And.intro @QEv <| And.intro @QFI <| And.intro @QEy <| And.intro @QC7 <| And.intro @QH8 <| And.intro @QHW <| And.intro @QFF <| And.intro @QB6 <| And.intro @QIj <| And.intro @QH4 <| And.intro @QJx <| And.intro @QCj <| And.intro @QDk <| And.intro @QEZ <| And.intro @QHu <| And.intro @QFU <| And.intro @QDd <| And.intro @QFi <| And.intro @QJu <| And.intro @QCU <| And.intro @QDc <| And.intro @QFO <| And.intro @QDl <| And.intro @QEL <| And.intro @QDm <| And.intro @QDK <| And.intro @QF2 <| And.intro @QJi <| And.intro @QIK <| And.intro @QFm <| And.intro @QJA <| And.intro @QDe <| And.intro @QGj <| And.intro @QJZ <| And.intro @QIq <| And.intro @QD2 <| And.intro @QGz <| And.intro @QKs <| And.intro @QBQ <| And.intro @QDu <| And.intro @QFh <| And.intro @QBG <| And.intro @QIZ <| And.intro @QFM <| And.intro @QBq <| And.intro @QBU @QIw
noncomputable def T : Tld := { P := Tryz.prog, ann := [(10, { ac := [(19, 0), (20, 0), (24, 0)], jn := [(12, (57, 49, 57)), (21, (86, 74, 86)), (32, (115, 107, 115))] }), (13, {}), (15, { lp := [(3, ⟨[0, 3, 4], [.s 3 3], [3], [.s 3 3]⟩)], sh := [.z 3] }), (17, {}), (18, { lp := [(4, ⟨[0, 1, 5], [], [], []⟩)], rt := ⟨[4], [], [], []⟩ }), (19, { ak := [0], lp := [(2, ⟨[0, 1, 5], [.s 0 3], [0, 1], [.s 0 3]⟩)] }), (20, { ak := [0, 1, 2, 3, 4, 5, 6], ac := [(1, 0), (2, 0), (3, 0), (4, 0), (5, 0), (6, 0), (7, 0)] }), (21, {}), (22, {}), (24, { sh := [.a [0, 8, 3, 3, 5, 4, 5, 4, 0]] }), (34, {}), (36, {}), (37, { lp := [(3, ⟨[0, 3, 4], [.s 3 2], [3], [.s 3 2]⟩)], sh := [.z 2] }), (39, { lp := [(4, ⟨[0, 1, 5], [], [], []⟩)], rt := ⟨[4], [], [], []⟩ }), (40, { ak := [0], lp := [(2, ⟨[0, 1, 5], [.s 0 2], [0, 1], [.s 0 2]⟩)] }), (41, {}), (42, { ot := [(9, .one 0 (.one 1 (.one 2 (.one 3 (.one 4 (.one 5 (.one 6 (.one 7 (.one 8 (.alt (.one 9 (.one 10 (.one 11 (.one 12 (.one 13 (.one 14 (.one 15 (.done)))))))) (.one 13 (.one 9 (.one 10 (.one 11 (.one 12 (.one 14 (.one 15 (.done))))))))))))))))))], av := [(6, [120]), (9, [120]), (10, [92]), (11, [92])], jn := [(3, (50, 27, 50))], sh := [.a [0, 8, 3, 3, 5, 4, 5, 4, 0], .n] }), (43, { lp := [(3, ⟨[0, 3, 4], [.s 3 3], [3], [.s 3 3]⟩)], sh := [.z 3] }), (44, { av := [(11, [100])], jn := [(3, (42, 28, 42)), (9, (80, 68, 80))], sh := [.a [0, 8, 3, 3, 5, 4, 5, 4, 0], .n] }), (45, { lp := [(4, ⟨[0, 1, 5], [], [], []⟩)], rt := ⟨[4], [], [], []⟩ }), (46, { ak := [0], lp := [(2, ⟨[0, 1, 5], [.s 0 3], [0, 1], [.s 0 3]⟩)] }), (59, { ord := [(1, [0, 1, 2, 3, 4, 6, 7, 9, 10, 11, 13, 14, 15, 17, 18, 19, 21, 22, 23, 25, 26, 27, 29, 30, 5, 8, 12, 16, 20, 24, 28, 31, 32])], eb := [(1, [5, 12, 16, 20, 24, 28])], sh := [.a [0, 8, 3, 3, 5, 4, 5, 4, 0]] }), (60, { jn := [(1, (48, 3, 48)), (3, (86, 49, 86)), (5, (2, 87, 93))] }), (62, {}), (63, { sh := [.z 3] }), (64, { ord := [(1, [0, 1, 2, 3, 4, 5, 6, 7, 8, 9, 10, 11, 12, 13, 14, 15, 16, 17, 18, 19, 20, 21, 22, 23, 24, 25, 26, 27, 28, 29, 30, 31, 32, 33, 34, 35, 36, 37, 38, 39, 40, 41, 42, 44, 45, 43, 46, 47, 48, 49, 50, 51, 52, 53])], jn := [(1, (2, 3, 56))] }), (65, { lp := [(4, ⟨[0, 1, 5], [], [], []⟩)], rt := ⟨[4], [], [], []⟩ }), (66, { lp := [(4, ⟨[0, 1, 5], [], [], []⟩)], rt := ⟨[4], [], [], []⟩ }), (67, { lp := [(4, ⟨[0, 1, 5], [], [], []⟩)], rt := ⟨[4], [], [], []⟩ }), (68, { lp := [(4, ⟨[0, 1, 5], [], [], []⟩)], rt := ⟨[4], [], [], []⟩ }), (69, { lp := [(4, ⟨[0, 1, 5], [], [], []⟩)], rt := ⟨[4], [], [], []⟩ }), (70, { lp := [(4, ⟨[0, 1, 5], [], [], []⟩)], rt := ⟨[4], [], [], []⟩ }), (71, {}), (72, { ak := [0], lp := [(2, ⟨[0, 1, 5], [.s 0 8], [0, 1], [.s 0 8]⟩)] }), (73, { an := [(6, [0, 0, 0, 0])], ak := [0], lp := [(2, ⟨[0, 1, 5], [.s 0 3], [0, 1], [.s 0 3]⟩)] }), (74, { ak := [0], lp := [(2, ⟨[0, 1, 5], [.s 0 5], [0, 1], [.s 0 5]⟩)] }), (75, { ak := [0], lp := [(2, ⟨[0, 1, 5], [.s 0 4], [0, 1], [.s 0 4]⟩)] }), (76, { ak := [0], lp := [(2, ⟨[0, 1, 5], [.s 0 5], [0, 1], [.s 0 5]⟩)] }), (77, { ak := [0], lp := [(2, ⟨[0, 1, 5], [.s 0 4], [0, 1], [.s 0 4]⟩)] }), (78, { lp := [(2, ⟨[0, 1, 5], [], [1], []⟩)], rt := ⟨[4], [], [], []⟩ }), (79, { lp := [(2, ⟨[0, 1, 5], [], [1], []⟩)], rt := ⟨[4], [], [], []⟩ }), (80, { lp := [(2, ⟨[0, 1, 5], [], [1], []⟩)], rt := ⟨[4], [], [], []⟩ }), (81, { lp := [(2, ⟨[0, 1, 5], [], [1], []⟩)], rt := ⟨[4], [], [], []⟩ }), (82, { lp := [(2, ⟨[0, 1, 5], [], [1], []⟩)], rt := ⟨[4], [], [], []⟩ }), (83, { lp := [(2, ⟨[0, 1, 5], [], [1], []⟩)], rt := ⟨[4], [], [], []⟩ }), (84, { lp := [(2, ⟨[0, 1, 5], [], [1], []⟩)], rt := ⟨[4], [], [], []⟩ }), (85, {}), (86, { lp := [(5, ⟨[0, 1, 5], [], [1], []⟩)], rt := ⟨[4], [], [], []⟩ }), (87, {}), (88, {}), (89, {}), (90, {}), (91, { jn := [(1, (6, 7, 15))] }), (92, { jn := [(1, (19, 8, 19))], sh := [.a [0, 8, 3, 3, 5, 4, 5, 4, 0], .n] }), (93, { lp := [(3, ⟨[0, 3, 4], [.s 3 8], [3], [.s 3 8]⟩)], sh := [.z 8] }), (94, { lp := [(3, ⟨[0, 3, 4], [.s 3 3], [3], [.s 3 3]⟩)], sh := [.z 3] }), (95, { lp := [(3, ⟨[0, 3, 4], [.s 3 5], [3], [.s 3 5]⟩)], sh := [.z 5] }), (96, { lp := [(3, ⟨[0, 3, 4], [.s 3 4], [3], [.s 3 4]⟩)], sh := [.z 4] }), (97, { lp := [(3, ⟨[0, 3, 4], [.s 3 5], [3], [.s 3 5]⟩)], sh := [.z 5] }), (98, { lp := [(3, ⟨[0, 3, 4], [.s 3 4], [3], [.s 3 4]⟩)], sh := [.z 4] }), (99, { ord := [(1, [0, 1, 3, 4, 6, 7, 9, 10, 2, 12, 5, 8, 11, 13, 14, 15, 16, 17, 18, 19]), (2, [0, 1, 3, 4, 6, 7, 2, 9, 5, 8, 10, 11, 12, 13, 14])], sh := [.a [0, 8, 3, 3, 5, 4, 5, 4, 0]] }), (100, { jn := [(1, (19, 8, 19))], sh := [.a [0, 8, 3, 3, 5, 4, 5, 4, 0], .n] }), (101, { jn := [(1, (6, 7, 15))] }), (103, { sh := [.z 2] }), (105, { jn := [(1, (5, 6, 19)), (3, (19, 20, 30))] }), (107, { sh := [.z 2] }), (109, { jn := [(1, (5, 6, 19)), (3, (19, 20, 30))] }), (112, { jn := [(4, (22, 12, 22))], lp := [(2, ⟨[0, 1, 5], [], [], []⟩)], rt := ⟨[4], [], [], []⟩ }), (114, {}), (116, { jn := [(5, (44, 13, 44))], lp := [(3, ⟨[0, 1, 5, 6], [], [0, 5], []⟩)] }), (117, { lp := [(2, ⟨[0, 1, 5], [], [], []⟩)], rt := ⟨[4], [], [], []⟩ }), (118, { sh := [.a [0, 8, 3, 3, 5, 4, 5, 4, 0], .n] }), (120, { sh := [.a [0, 8, 3, 3, 5, 4, 5, 4, 0], .n] }), (122, { jn := [(2, (24, 11, 24))] }), (123, { jn := [(6, (35, 16, 35))], lp := [(4, ⟨[1, 5, 6, 10, 11, 12], [.s 5 0], [5], [.s 5 0]⟩)] }), (124, { sh := [.a [0, 8, 3, 3, 5, 4, 5, 4, 0], .n] }), (126, { ot := [(1, .one 0 (.one 2 (.alt (.one 1 (.one 3 (.one 4 (.one 5 (.done))))) (.one 3 (.one 1 (.one 4 (.one 5 (.done))))))))], sh := [.z 4, .n] }), (127, { jn := [(6, (36, 20, 36)), (10, (42, 43, 53))], lp := [(4, ⟨[1, 2, 3, 7], [.s 3 0], [2, 3], [.s 3 0]⟩)], rt := ⟨[6], [], [], []⟩ }), (128, { jn := [(4, (16, 17, 26)), (6, (26, 27, 35)), (8, (35, 36, 44))] }), (132, { ot := [(5, .one 1 (.alt (.one 0 (.alt (.one 2 (.one 3 (.one 4 (.one 5 (.one 6 (.done)))))) (.one 3 (.alt (.one 2 (.one 4 (.one 5 (.one 6 (.done))))) (.one 4 (.one 2 (.one 5 (.one 6 (.done))))))))) (.one 3 (.alt (.one 0 (.alt (.one 2 (.one 4 (.one 5 (.one 6 (.done))))) (.one 4 (.one 2 (.one 5 (.one 6 (.done))))))) (.one 4 (.one 0 (.one 2 (.one 5 (.one 6 (.done))))))))))], sh := [.z 5, .n] }), (133, {}), (134, {}), (138, { ot := [(5, .one 0 (.one 2 (.alt (.one 1 (.one 3 (.one 4 (.one 5 (.done))))) (.one 3 (.one 1 (.one 4 (.one 5 (.done))))))))], sh := [.z 5, .n] }), (139, {}), (140, { jn := [(1, (12, 5, 12))] }), (141, { sh := [.z 2] }), (142, {}), (143, { jn := [(1, (12, 5, 12))] }), (144, { sh := [.z 2] }), (145, {}), (146, {}), (147, { ord := [(5, [0, 1, 2, 3, 4, 5, 6, 7, 8, 9, 10, 11, 13, 14, 15, 16, 17, 12, 18, 19, 20, 21])], eb := [(5, [18])], lp := [(3, ⟨[0, 3, 4], [.s 3 3], [3], [.s 3 3]⟩)], sh := [.z 3] }), (148, { jn := [(4, (35, 10, 35))], lp := [(2, ⟨[0, 3], [], [0], []⟩)], rt := ⟨[2], [], [], []⟩ }), (149, { jn := [(4, (61, 10, 61))], lp := [(2, ⟨[0, 3], [], [0], []⟩)], rt := ⟨[2], [], [], []⟩ }), (150, { jn := [(4, (53, 11, 53)), (9, (77, 59, 77))], lp := [(2, ⟨[0, 3], [], [0], []⟩), (7, ⟨[0, 3, 4], [], [0, 3], []⟩)], rt := ⟨[2], [], [], []⟩ }), (151, { jn := [(5, (58, 16, 58)), (10, (84, 64, 84))], lp := [(2, ⟨[0, 3], [], [0], []⟩), (8, ⟨[0, 3, 4, 5], [.s 4 0], [0, 3], []⟩)], rt := ⟨[2], [], [], []⟩ }), (152, { jn := [(3, (15, 7, 15)), (7, (67, 25, 67)), (10, (96, 73, 96))], lp := [(3, ⟨[0, 3, 4], [], [0], []⟩)], rt := ⟨[2], [], [], []⟩ }), (153, { jn := [(5, (58, 15, 58))], lp := [(2, ⟨[0, 3], [], [0], []⟩)], rt := ⟨[2], [], [], []⟩ }), (154, { ord := [(13, [0, 1, 2, 3, 4, 5, 6, 7, 8, 9, 10, 11, 14, 15, 12, 13, 16, 17, 18, 19, 20, 21, 22, 23, 24, 25, 26, 27, 28, 29])], jn := [(13, (77, 48, 77)), (18, (103, 85, 103))], lp := [(5, ⟨[1, 3, 4], [.s 1 0, .s 3 1], [1, 3], [.s 1 0, .s 3 1]⟩), (10, ⟨[1, 3, 5], [.s 1 0, .s 3 1], [1], [.s 1 0]⟩), (16, ⟨[1, 7], [.s 1 0], [], []⟩)], rt := ⟨[2], [], [], []⟩ }), (155, { ord := [(8, [0, 1, 2, 3, 4, 5, 6, 7, 8, 9, 10, 11, 12, 13, 14, 15, 16, 17, 18, 19, 20, 21, 22, 23, 24, 25, 26, 27, 28, 29, 30, 32, 33, 34, 35, 36, 38, 31, 37, 39, 40, 41, 42, 43, 44, 45, 46, 47])], jn := [(8, (77, 30, 77))], lp := [(4, ⟨[1, 3], [.s 1 0], [], []⟩)], rt := ⟨[2], [], [], []⟩ }), (156, { jn := [(6, (34, 15, 34))], lp := [(4, ⟨[0, 8, 9, 10], [], [], []⟩)], rt := ⟨[2], [], [], []⟩ }), (157, { jn := [(6, (51, 15, 51))], lp := [(4, ⟨[0, 8, 9, 10], [], [], []⟩)], rt := ⟨[2], [], [], []⟩ }), (158, { jn := [(6, (54, 15, 54))], lp := [(4, ⟨[0, 8, 9, 10], [], [], []⟩)], rt := ⟨[2], [], [], []⟩ }), (159, { jn := [(6, (59, 17, 59)), (11, (82, 68, 82))], lp := [(4, ⟨[0, 10, 11, 12], [], [], []⟩), (9, ⟨[0, 4, 10, 11, 12, 62, 63, 64], [.s 4 0], [0, 10, 11, 12], []⟩)], rt := ⟨[2], [], [], []⟩ }), (160, { jn := [(7, (61, 17, 61)), (13, (83, 73, 83))], lp := [(5, ⟨[0, 3, 10, 11, 12], [], [], []⟩)], rt := ⟨[2], [], [], []⟩ }), (161, { jn := [(6, (58, 15, 58))], lp := [(4, ⟨[0, 8, 9, 10], [], [], []⟩)], rt := ⟨[2], [], [], []⟩ }), (162, { ord := [(7, [0, 1, 2, 3, 4, 5, 6, 7, 8, 9, 10, 11, 12, 13, 14, 15, 18, 19, 20, 21, 16, 17, 22, 23, 24])], jn := [(7, (54, 30, 54)), (13, (73, 63, 73))], lp := [(5, ⟨[1, 3, 23, 24, 25], [.s 1 0, .s 3 1], [1, 3], [.s 1 0, .s 3 1]⟩), (11, ⟨[1, 3, 57, 58, 59], [.s 1 0, .s 3 1], [1, 3], [.s 1 0, .s 3 1]⟩), (17, ⟨[1, 75, 76, 77], [.s 1 0, .s 75 1], [], []⟩)], rt := ⟨[2], [], [], []⟩ }), (163, { ord := [(7, [0, 1, 2, 3, 4, 5, 6, 7, 8, 9, 10, 11, 12, 13, 14, 15, 16, 17, 18, 19, 20, 21, 22, 24, 26, 27, 23, 25, 28, 29, 30])], jn := [(7, (56, 26, 56))], lp := [(4, ⟨[1, 14, 15, 16], [.s 1 0], [], []⟩)], rt := ⟨[2], [], [], []⟩ }), (164, { lp := [(3, ⟨[1, 3, 13, 14, 15], [.s 1 0], [1, 3], [.s 1 0]⟩), (8, ⟨[1, 3, 25, 26, 27], [.s 1 0], [1, 3], [.s 1 0]⟩), (13, ⟨[1, 3, 37, 38, 39], [.s 1 0], [1, 3], [.s 1 0]⟩), (18, ⟨[3, 49, 50, 51], [], [3], []⟩)] }), (165, {}), (166, {}), (167, {}), (168, {}), (169, {}), (170, { lp := [(2, ⟨[0, 1, 5], [], [1], []⟩)], rt := ⟨[4], [], [], []⟩ }), (171, {}), (172, { sh := [.a [0, 2, 0]] }), (173, {}), (174, {}), (175, {}), (176, {}), (177, { sh := [.z 8] }), (178, { lp := [(3, ⟨[3, 7, 8, 9], [.s 3 3], [3], [.s 3 3]⟩)], sh := [.z 3] }), (179, { sh := [.z 5] }), (180, { sh := [.z 4] }), (181, { sh := [.z 5] }), (182, { sh := [.z 4] }), (183, {}), (184, { lp := [(2, ⟨[0, 1, 5], [], [], []⟩)], rt := ⟨[4], [], [], []⟩ }), (187, { jn := [(1, (2, 3, 26))] }), (188, { jn := [(4, (43, 10, 43))], lp := [(2, ⟨[0, 3], [], [0], []⟩)], rt := ⟨[2], [], [], []⟩ }), (189, {}), (190, { lp := [(2, ⟨[0, 1, 7, 8], [], [], []⟩)], rt := ⟨[4], [], [], []⟩ }), (192, {}), (193, { sh := [.z 2] }), (196, { jn := [(1, (2, 3, 26))] }), (197, { jn := [(6, (39, 15, 39))], lp := [(4, ⟨[0, 8, 9, 10], [], [], []⟩)], rt := ⟨[2], [], [], []⟩ }), (198, {}), (199, {}), (202, { lp := [(2, ⟨[0, 1, 7, 8], [], [], []⟩)], rt := ⟨[4], [], [], []⟩ }), (203, {}), (206, { jn := [(3, (21, 15, 21))], lp := [(6, ⟨[6, 7, 8], [.s 6 3], [6], [.s 6 3]⟩)], sh := [.z 3, .n] }), (207, { ot := [(1, .one 1 (.alt (.one 0 (.alt (.one 2 (.one 3 (.one 4 (.one 5 (.one 6 (.done)))))) (.one 3 (.alt (.one 2 (.one 4 (.one 5 (.one 6 (.done))))) (.one 4 (.one 2 (.one 5 (.one 6 (.done))))))))) (.one 3 (.alt (.one 0 (.alt (.one 2 (.one 4 (.one 5 (.one 6 (.done))))) (.one 4 (.one 2 (.one 5 (.one 6 (.done))))))) (.one 4 (.one 0 (.one 2 (.one 5 (.one 6 (.done))))))))))], sh := [.z 4, .n] }), (208, { jn := [(1, (2, 3, 26))] }), (209, {}), (210, {}), (211, { jn := [(3, (19, 13, 19))], sh := [.z 3, .n] }), (212, { jn := [(1, (2, 3, 26))] }), (213, { jn := [(1, (4, 5, 13))] }), (214, { jn := [(1, (4, 5, 13))] }), (215, { jn := [(1, (3, 4, 14))] }), (217, {}), (221, {}), (222, { jn := [(4, (26, 11, 26))], lp := [(2, ⟨[0, 3], [], [0], []⟩), (7, ⟨[0, 3, 4], [], [0, 3], []⟩)], rt := ⟨[2], [], [], []⟩ }), (223, { ot := [(8, .one 1 (.one 2 (.one 3 (.one 5 (.one 6 (.one 11 (.one 12 (.one 13 (.alt (.one 0 (.alt (.one 4 (.one 7 (.one 8 (.one 9 (.one 10 (.one 14 (.one 15 (.done)))))))) (.one 7 (.alt (.one 4 (.one 8 (.one 9 (.one 10 (.one 14 (.one 15 (.done))))))) (.one 8 (.alt (.one 4 (.one 9 (.one 10 (.one 14 (.one 15 (.done)))))) (.one 9 (.one 4 (.one 10 (.one 14 (.one 15 (.done)))))))))))) (.one 7 (.alt (.one 0 (.alt (.one 4 (.one 8 (.one 9 (.one 10 (.one 14 (.one 15 (.done))))))) (.one 8 (.alt (.one 4 (.one 9 (.one 10 (.one 14 (.one 15 (.done)))))) (.one 9 (.one 4 (.one 10 (.one 14 (.one 15 (.done)))))))))) (.one 8 (.alt (.one 0 (.alt (.one 4 (.one 9 (.one 10 (.one 14 (.one 15 (.done)))))) (.one 9 (.one 4 (.one 10 (.one 14 (.one 15 (.done)))))))) (.one 9 (.one 0 (.one 4 (.one 10 (.one 14 (.one 15 (.done))))))))))))))))))))], fz := [(8, [3])], jn := [(6, (30, 15, 30))], lp := [(3, ⟨[0, 3, 4], [.s 3 3], [3], [.s 3 3]⟩), (6, ⟨[0, 3, 4, 5], [.s 3 3], [0, 3, 4, 5], [.s 3 3]⟩)], sh := [.z 3] }), (224, { jn := [(9, (43, 31, 43))], lp := [(4, ⟨[0, 1, 5, 6, 7], [.s 5 1], [0, 1, 5, 6], [.s 5 1]⟩), (13, ⟨[0, 1, 5, 6, 8, 9], [.s 5 1], [5, 8], [.s 5 1]⟩), (18, ⟨[5, 8, 10], [.s 5 1], [5], [.s 5 1]⟩)], rt := ⟨[4], [.s 4 1], [], []⟩, sh := [.z 1] }), (225, { jn := [(6, (24, 15, 24))], lp := [(4, ⟨[0, 8, 9, 10], [], [], []⟩)], rt := ⟨[2], [], [], []⟩ }), (226, { ac := [(2, 0)], sh := [.z 3] }), (227, { jn := [(2, (23, 15, 23))], lp := [(6, ⟨[0, 1, 5, 6, 25, 26, 27], [.s 5 1], [0, 1, 5, 6], [.s 5 1]⟩), (16, ⟨[0, 5, 6, 9, 43, 44, 45], [.s 5 1], [5, 9], [.s 5 1]⟩), (23, ⟨[5, 9, 13], [.s 5 1], [5], [.s 5 1]⟩)], rt := ⟨[4], [.s 4 1], [], []⟩, sh := [.z 1] }), (228, {}), (229, { jn := [(1, (2, 3, 21))] }), (230, { lp := [(3, ⟨[0, 1, 2, 7, 8], [], [7], []⟩)] }), (231, { jn := [(3, (16, 9, 16)), (6, (42, 28, 42))], lp := [(3, ⟨[0, 1, 5, 6], [.s 5 1], [5], [.s 5 1]⟩)], sh := [.z 1] }), (232, { lp := [(2, ⟨[0, 1, 5], [], [], []⟩)], rt := ⟨[4], [], [], []⟩ }), (233, { jn := [(1, (2, 3, 21))] }), (234, {}), (235, { lp := [(2, ⟨[0, 1, 5], [], [], []⟩)], rt := ⟨[4], [], [], []⟩ }), (236, { ac := [(10, 0)], jn := [(7, (36, 20, 36))], lp := [(5, ⟨[0, 1, 5, 13, 14, 15], [.s 5 1], [5], [.s 5 1]⟩)], sh := [.z 1] }), (237, {}), (238, {}), (239, { lp := [(2, ⟨[0, 1, 7, 8], [], [], []⟩)], rt := ⟨[4], [], [], []⟩ }), (241, { lp := [(2, ⟨[0, 1, 7, 8], [], [], []⟩)], rt := ⟨[4], [], [], []⟩ }), (242, {}), (247, { lp := [(2, ⟨[0, 1, 7, 8], [], [], []⟩)], rt := ⟨[4], [], [], []⟩ }), (248, {}), (249, {}), (250, {}), (251, { lp := [(3, ⟨[0, 3, 4], [], [3], []⟩)] }), (256, { lp := [(3, ⟨[3, 6, 7, 8], [], [3], []⟩)] }), (257, { jn := [(1, (2, 3, 11))] }), (258, {}), (259, {}), (260, { sh := [.z 3] }), (261, { ak := [0], ac := [(0, 0)] }), (262, {}), (263, {}), (264, { ot := [(6, .one 1 (.one 2 (.one 3 (.one 5 (.one 8 (.one 9 (.one 10 (.alt (.one 0 (.alt (.one 4 (.one 6 (.one 7 (.one 11 (.one 12 (.done)))))) (.one 6 (.one 4 (.one 7 (.one 11 (.one 12 (.done)))))))) (.one 6 (.one 0 (.one 4 (.one 7 (.one 11 (.one 12 (.done)))))))))))))))], jn := [(2, (17, 6, 17)), (4, (31, 20, 31))], lp := [(2, ⟨[0, 1, 5], [], [0, 1, 5], []⟩)], sh := [.z 1] }), (266, { lp := [(2, ⟨[0, 1, 7, 8], [], [], []⟩)], rt := ⟨[4], [], [], []⟩ }), (267, {}), (270, { jn := [(5, (10, 11, 17))] }), (271, {}), (274, {}), (275, { lp := [(2, ⟨[0, 1, 7, 8], [], [], []⟩)], rt := ⟨[4], [], [], []⟩ }), (276, { ak := [0], ac := [(3, 0), (6, 0)], lp := [(2, ⟨[0, 1, 2, 6, 7, 8], [.s 0 3], [0, 1, 2, 6, 7], [.s 0 3]⟩), (7, ⟨[0, 1, 2, 6], [.s 0 3], [0], [.s 0 3]⟩), (9, ⟨[0, 1, 2, 6, 7, 8], [.s 0 3], [0, 1, 2, 6, 7], [.s 0 3]⟩)] }), (277, {}), (283, {}), (284, { ak := [0], jn := [(4, (34, 18, 34))], lp := [(1, ⟨[0, 1, 2, 3, 8], [.s 0 3], [0], [.s 0 3]⟩), (4, ⟨[0, 1, 2, 3, 8, 9], [.s 0 3], [0, 1, 2, 3, 8], [.s 0 3]⟩)] })], xt := fun _ _ => none, st := fun g => Nat.beq g 265, qt := fun _ => false, pz := [], vt := fun g => Nat.beq g 92 || Nat.beq g 100 || Nat.beq g 120, mt := fun _ _ _ => none }
theorem TP : T.P = Tryz.prog := _root_.id rfl
theorem TZ : T.pz = [] := _root_.id rfl
theorem Qv3 (n : Nat) (args : List AV) : CP T n 285 args = none := by
 cases n with
 | zero => rfl
 | succ n => rw [QQW T n 285 args (by kernel_rfl)]; rfl
def eY := And.intro evT <| And.intro QI8 <| And.intro @QPy <| And.intro @Qlx <| @JE
def eZ := And.intro evB <| And.intro evT <| And.intro tys <| And.intro QI8 <| And.intro TP <| And.intro TZ <| And.intro (@QJs T) <| And.intro (@QCL T) <| And.intro (@QEt T) <| And.intro @Qv3 <| @QDB T
theorem QNR : cI = Qt := _root_.id rfl
theorem QyL (xs : List Int) : QbM (xs.map Qt) = some xs := QpN xs
theorem Qyv : T.st 265 = true := by kernel_rfl
theorem QDy : T.st 19 = false := by kernel_rfl
theorem QKq : T.qt 19 = false := by kernel_rfl
theorem QES : T.wt 19 = true := by kernel_rfl
theorem QDb : T.vt 19 = false := by kernel_rfl
theorem QCq : T.st 20 = false := by kernel_rfl
theorem QI5 : T.qt 20 = false := by kernel_rfl
theorem QJK : T.wt 20 = true := by kernel_rfl
theorem QF6 : T.vt 20 = false := by kernel_rfl
theorem QKf : T.st 40 = false := by kernel_rfl
theorem QJY : T.qt 40 = false := by kernel_rfl
theorem QFZ : T.wt 40 = true := by kernel_rfl
theorem QHa : T.vt 40 = false := by kernel_rfl
theorem QDX : T.st 46 = false := by kernel_rfl
theorem QH6 : T.qt 46 = false := by kernel_rfl
theorem QCp : T.wt 46 = true := by kernel_rfl
theorem QG2 : T.vt 46 = false := by kernel_rfl
theorem QBI : T.st 72 = false := by kernel_rfl
theorem QHP : T.qt 72 = false := by kernel_rfl
theorem QHA : T.wt 72 = true := by kernel_rfl
theorem QDh : T.vt 72 = false := by kernel_rfl
theorem QG6 : T.st 73 = false := by kernel_rfl
theorem QCD : T.qt 73 = false := by kernel_rfl
theorem QJB : T.wt 73 = true := by kernel_rfl
theorem QBW : T.vt 73 = false := by kernel_rfl
theorem QGG : T.st 74 = false := by kernel_rfl
theorem QGC : T.qt 74 = false := by kernel_rfl
theorem QE6 : T.wt 74 = true := by kernel_rfl
theorem QDf : T.vt 74 = false := by kernel_rfl
theorem QEg : T.st 75 = false := by kernel_rfl
theorem QGO : T.qt 75 = false := by kernel_rfl
theorem QBR : T.wt 75 = true := by kernel_rfl
theorem QIC : T.vt 75 = false := by kernel_rfl
theorem QG4 : T.st 76 = false := by kernel_rfl
theorem QHs : T.qt 76 = false := by kernel_rfl
theorem QJ1 : T.wt 76 = true := by kernel_rfl
theorem QEx : T.vt 76 = false := by kernel_rfl
theorem QJQ : T.st 77 = false := by kernel_rfl
theorem QKC : T.qt 77 = false := by kernel_rfl
theorem QJ3 : T.wt 77 = true := by kernel_rfl
theorem QCv : T.vt 77 = false := by kernel_rfl
theorem QJU : T.st 92 = false := by kernel_rfl
theorem QJR : T.qt 92 = false := by kernel_rfl
theorem QJL : T.wt 92 = false := by kernel_rfl
theorem QKd : T.vt 92 = true := by kernel_rfl
theorem Qzq : T.st 100 = false := by kernel_rfl
theorem QAf : T.qt 100 = false := by kernel_rfl
theorem Qy8 : T.wt 100 = false := by kernel_rfl
theorem QAp : T.vt 100 = true := by kernel_rfl
theorem Qy5 : T.st 120 = false := by kernel_rfl
theorem Qz2 : T.qt 120 = false := by kernel_rfl
theorem QAy : T.wt 120 = false := by kernel_rfl
theorem QBj : T.vt 120 = true := by kernel_rfl
theorem QzN : T.st 261 = false := by kernel_rfl
theorem Qy4 : T.qt 261 = false := by kernel_rfl
theorem QAd : T.wt 261 = true := by kernel_rfl
theorem QA3 : T.vt 261 = false := by kernel_rfl
theorem QBb : T.st 276 = false := by kernel_rfl
theorem Qyf : T.qt 276 = false := by kernel_rfl
theorem QyE : T.wt 276 = true := by kernel_rfl
theorem QBd : T.vt 276 = false := by kernel_rfl
theorem QAN : T.st 284 = false := by kernel_rfl
theorem QAW : T.qt 284 = false := by kernel_rfl
theorem Qzi : T.wt 284 = true := by kernel_rfl
theorem QAS : T.vt 284 = false := by kernel_rfl
def srt := And.intro @QNR <| And.intro @QyL <| And.intro @QFx <| And.intro @QGo <| And.intro @QHY <| And.intro @QJO <| And.intro @Qyv <| And.intro @QDy <| And.intro @QKq <| And.intro @QES <| And.intro @QDb <| And.intro @QCq <| And.intro @QI5 <| And.intro @QJK <| And.intro @QF6 <| And.intro @QKf <| And.intro @QJY <| And.intro @QFZ <| And.intro @QHa <| And.intro @QDX <| And.intro @QH6 <| And.intro @QCp <| And.intro @QG2 <| And.intro @QBI <| And.intro @QHP <| And.intro @QHA <| And.intro @QDh <| And.intro @QG6 <| And.intro @QCD <| And.intro @QJB <| And.intro @QBW <| And.intro @QGG <| And.intro @QGC <| And.intro @QE6 <| And.intro @QDf <| And.intro @QEg <| And.intro @QGO <| And.intro @QBR <| And.intro @QIC <| And.intro @QG4 <| And.intro @QHs <| And.intro @QJ1 <| And.intro @QEx <| And.intro @QJQ <| And.intro @QKC <| And.intro @QJ3 <| And.intro @QCv <| And.intro @QJU <| And.intro @QJR <| And.intro @QJL <| And.intro @QKd <| And.intro @Qzq <| And.intro @QAf <| And.intro @Qy8 <| And.intro @QAp <| And.intro @Qy5 <| And.intro @Qz2 <| And.intro @QAy <| And.intro @QBj <| And.intro @QzN <| And.intro @Qy4 <| And.intro @QAd <| And.intro @QA3 <| And.intro @QBb <| And.intro @Qyf <| And.intro @QyE <| And.intro @QBd <| And.intro @QAN <| And.intro @QAW <| And.intro @Qzi @QAS
theorem a10 : T.at 10 = some { ac := [(19, 0), (20, 0), (24, 0)], jn := [(12, (57, 49, 57)), (21, (86, 74, 86)), (32, (115, 107, 115))] } := by kernel_rfl
theorem a13 : T.at 13 = some {} := by kernel_rfl
theorem a15 : T.at 15 = some { lp := [(3, ⟨[0, 3, 4], [.s 3 3], [3], [.s 3 3]⟩)], sh := [.z 3] } := by kernel_rfl
theorem a17 : T.at 17 = some {} := by kernel_rfl
theorem a18 : T.at 18 = some { lp := [(4, ⟨[0, 1, 5], [], [], []⟩)], rt := ⟨[4], [], [], []⟩ } := by kernel_rfl
theorem a19 : T.at 19 = some { ak := [0], lp := [(2, ⟨[0, 1, 5], [.s 0 3], [0, 1], [.s 0 3]⟩)] } := by kernel_rfl
theorem a20 : T.at 20 = some { ak := [0, 1, 2, 3, 4, 5, 6], ac := [(1, 0), (2, 0), (3, 0), (4, 0), (5, 0), (6, 0), (7, 0)] } := by kernel_rfl
theorem a21 : T.at 21 = some {} := by kernel_rfl
theorem a22 : T.at 22 = some {} := by kernel_rfl
theorem a24 : T.at 24 = some { sh := [.a [0, 8, 3, 3, 5, 4, 5, 4, 0]] } := by kernel_rfl
theorem a34 : T.at 34 = some {} := by kernel_rfl
theorem a36 : T.at 36 = some {} := by kernel_rfl
theorem a37 : T.at 37 = some { lp := [(3, ⟨[0, 3, 4], [.s 3 2], [3], [.s 3 2]⟩)], sh := [.z 2] } := by kernel_rfl
theorem a39 : T.at 39 = some { lp := [(4, ⟨[0, 1, 5], [], [], []⟩)], rt := ⟨[4], [], [], []⟩ } := by kernel_rfl
theorem a40 : T.at 40 = some { ak := [0], lp := [(2, ⟨[0, 1, 5], [.s 0 2], [0, 1], [.s 0 2]⟩)] } := by kernel_rfl
theorem a41 : T.at 41 = some {} := by kernel_rfl
theorem a42 : T.at 42 = some { ot := [(9, .one 0 (.one 1 (.one 2 (.one 3 (.one 4 (.one 5 (.one 6 (.one 7 (.one 8 (.alt (.one 9 (.one 10 (.one 11 (.one 12 (.one 13 (.one 14 (.one 15 (.done)))))))) (.one 13 (.one 9 (.one 10 (.one 11 (.one 12 (.one 14 (.one 15 (.done))))))))))))))))))], av := [(6, [120]), (9, [120]), (10, [92]), (11, [92])], jn := [(3, (50, 27, 50))], sh := [.a [0, 8, 3, 3, 5, 4, 5, 4, 0], .n] } := by kernel_rfl
theorem a43 : T.at 43 = some { lp := [(3, ⟨[0, 3, 4], [.s 3 3], [3], [.s 3 3]⟩)], sh := [.z 3] } := by kernel_rfl
theorem a44 : T.at 44 = some { av := [(11, [100])], jn := [(3, (42, 28, 42)), (9, (80, 68, 80))], sh := [.a [0, 8, 3, 3, 5, 4, 5, 4, 0], .n] } := by kernel_rfl
theorem a45 : T.at 45 = some { lp := [(4, ⟨[0, 1, 5], [], [], []⟩)], rt := ⟨[4], [], [], []⟩ } := by kernel_rfl
theorem a46 : T.at 46 = some { ak := [0], lp := [(2, ⟨[0, 1, 5], [.s 0 3], [0, 1], [.s 0 3]⟩)] } := by kernel_rfl
theorem a59 : T.at 59 = some { ord := [(1, [0, 1, 2, 3, 4, 6, 7, 9, 10, 11, 13, 14, 15, 17, 18, 19, 21, 22, 23, 25, 26, 27, 29, 30, 5, 8, 12, 16, 20, 24, 28, 31, 32])], eb := [(1, [5, 12, 16, 20, 24, 28])], sh := [.a [0, 8, 3, 3, 5, 4, 5, 4, 0]] } := by kernel_rfl
theorem a60 : T.at 60 = some { jn := [(1, (48, 3, 48)), (3, (86, 49, 86)), (5, (2, 87, 93))] } := by kernel_rfl
theorem a62 : T.at 62 = some {} := by kernel_rfl
theorem a63 : T.at 63 = some { sh := [.z 3] } := by kernel_rfl
theorem a64 : T.at 64 = some { ord := [(1, [0, 1, 2, 3, 4, 5, 6, 7, 8, 9, 10, 11, 12, 13, 14, 15, 16, 17, 18, 19, 20, 21, 22, 23, 24, 25, 26, 27, 28, 29, 30, 31, 32, 33, 34, 35, 36, 37, 38, 39, 40, 41, 42, 44, 45, 43, 46, 47, 48, 49, 50, 51, 52, 53])], jn := [(1, (2, 3, 56))] } := by kernel_rfl
theorem a65 : T.at 65 = some { lp := [(4, ⟨[0, 1, 5], [], [], []⟩)], rt := ⟨[4], [], [], []⟩ } := by kernel_rfl
theorem a66 : T.at 66 = some { lp := [(4, ⟨[0, 1, 5], [], [], []⟩)], rt := ⟨[4], [], [], []⟩ } := by kernel_rfl
theorem a67 : T.at 67 = some { lp := [(4, ⟨[0, 1, 5], [], [], []⟩)], rt := ⟨[4], [], [], []⟩ } := by kernel_rfl
theorem a68 : T.at 68 = some { lp := [(4, ⟨[0, 1, 5], [], [], []⟩)], rt := ⟨[4], [], [], []⟩ } := by kernel_rfl
theorem a69 : T.at 69 = some { lp := [(4, ⟨[0, 1, 5], [], [], []⟩)], rt := ⟨[4], [], [], []⟩ } := by kernel_rfl
theorem a70 : T.at 70 = some { lp := [(4, ⟨[0, 1, 5], [], [], []⟩)], rt := ⟨[4], [], [], []⟩ } := by kernel_rfl
theorem a71 : T.at 71 = some {} := by kernel_rfl
theorem a72 : T.at 72 = some { ak := [0], lp := [(2, ⟨[0, 1, 5], [.s 0 8], [0, 1], [.s 0 8]⟩)] } := by kernel_rfl
theorem a73 : T.at 73 = some { an := [(6, [0, 0, 0, 0])], ak := [0], lp := [(2, ⟨[0, 1, 5], [.s 0 3], [0, 1], [.s 0 3]⟩)] } := by kernel_rfl
theorem a74 : T.at 74 = some { ak := [0], lp := [(2, ⟨[0, 1, 5], [.s 0 5], [0, 1], [.s 0 5]⟩)] } := by kernel_rfl
theorem a75 : T.at 75 = some { ak := [0], lp := [(2, ⟨[0, 1, 5], [.s 0 4], [0, 1], [.s 0 4]⟩)] } := by kernel_rfl
theorem a76 : T.at 76 = some { ak := [0], lp := [(2, ⟨[0, 1, 5], [.s 0 5], [0, 1], [.s 0 5]⟩)] } := by kernel_rfl
theorem a77 : T.at 77 = some { ak := [0], lp := [(2, ⟨[0, 1, 5], [.s 0 4], [0, 1], [.s 0 4]⟩)] } := by kernel_rfl
theorem a78 : T.at 78 = some { lp := [(2, ⟨[0, 1, 5], [], [1], []⟩)], rt := ⟨[4], [], [], []⟩ } := by kernel_rfl
theorem a79 : T.at 79 = some { lp := [(2, ⟨[0, 1, 5], [], [1], []⟩)], rt := ⟨[4], [], [], []⟩ } := by kernel_rfl
theorem a80 : T.at 80 = some { lp := [(2, ⟨[0, 1, 5], [], [1], []⟩)], rt := ⟨[4], [], [], []⟩ } := by kernel_rfl
theorem a81 : T.at 81 = some { lp := [(2, ⟨[0, 1, 5], [], [1], []⟩)], rt := ⟨[4], [], [], []⟩ } := by kernel_rfl
theorem a82 : T.at 82 = some { lp := [(2, ⟨[0, 1, 5], [], [1], []⟩)], rt := ⟨[4], [], [], []⟩ } := by kernel_rfl
theorem a83 : T.at 83 = some { lp := [(2, ⟨[0, 1, 5], [], [1], []⟩)], rt := ⟨[4], [], [], []⟩ } := by kernel_rfl
theorem a84 : T.at 84 = some { lp := [(2, ⟨[0, 1, 5], [], [1], []⟩)], rt := ⟨[4], [], [], []⟩ } := by kernel_rfl
theorem a85 : T.at 85 = some {} := by kernel_rfl
theorem a86 : T.at 86 = some { lp := [(5, ⟨[0, 1, 5], [], [1], []⟩)], rt := ⟨[4], [], [], []⟩ } := by kernel_rfl
theorem a87 : T.at 87 = some {} := by kernel_rfl
theorem a88 : T.at 88 = some {} := by kernel_rfl
theorem a89 : T.at 89 = some {} := by kernel_rfl
theorem a90 : T.at 90 = some {} := by kernel_rfl
theorem a91 : T.at 91 = some { jn := [(1, (6, 7, 15))] } := by kernel_rfl
theorem a92 : T.at 92 = some { jn := [(1, (19, 8, 19))], sh := [.a [0, 8, 3, 3, 5, 4, 5, 4, 0], .n] } := by kernel_rfl
theorem a93 : T.at 93 = some { lp := [(3, ⟨[0, 3, 4], [.s 3 8], [3], [.s 3 8]⟩)], sh := [.z 8] } := by kernel_rfl
theorem a94 : T.at 94 = some { lp := [(3, ⟨[0, 3, 4], [.s 3 3], [3], [.s 3 3]⟩)], sh := [.z 3] } := by kernel_rfl
theorem a95 : T.at 95 = some { lp := [(3, ⟨[0, 3, 4], [.s 3 5], [3], [.s 3 5]⟩)], sh := [.z 5] } := by kernel_rfl
theorem a96 : T.at 96 = some { lp := [(3, ⟨[0, 3, 4], [.s 3 4], [3], [.s 3 4]⟩)], sh := [.z 4] } := by kernel_rfl
theorem a97 : T.at 97 = some { lp := [(3, ⟨[0, 3, 4], [.s 3 5], [3], [.s 3 5]⟩)], sh := [.z 5] } := by kernel_rfl
theorem a98 : T.at 98 = some { lp := [(3, ⟨[0, 3, 4], [.s 3 4], [3], [.s 3 4]⟩)], sh := [.z 4] } := by kernel_rfl
theorem a99 : T.at 99 = some { ord := [(1, [0, 1, 3, 4, 6, 7, 9, 10, 2, 12, 5, 8, 11, 13, 14, 15, 16, 17, 18, 19]), (2, [0, 1, 3, 4, 6, 7, 2, 9, 5, 8, 10, 11, 12, 13, 14])], sh := [.a [0, 8, 3, 3, 5, 4, 5, 4, 0]] } := by kernel_rfl
theorem QMw : T.at 100 = some { jn := [(1, (19, 8, 19))], sh := [.a [0, 8, 3, 3, 5, 4, 5, 4, 0], .n] } := by kernel_rfl
theorem QMa : T.at 101 = some { jn := [(1, (6, 7, 15))] } := by kernel_rfl
theorem QP4 : T.at 103 = some { sh := [.z 2] } := by kernel_rfl
theorem QQi : T.at 105 = some { jn := [(1, (5, 6, 19)), (3, (19, 20, 30))] } := by kernel_rfl
theorem QNc : T.at 107 = some { sh := [.z 2] } := by kernel_rfl
theorem QPc : T.at 109 = some { jn := [(1, (5, 6, 19)), (3, (19, 20, 30))] } := by kernel_rfl
theorem QE0 : T.at 112 = some { jn := [(4, (22, 12, 22))], lp := [(2, ⟨[0, 1, 5], [], [], []⟩)], rt := ⟨[4], [], [], []⟩ } := by kernel_rfl
theorem QLO : T.at 114 = some {} := by kernel_rfl
theorem QHZ : T.at 116 = some { jn := [(5, (44, 13, 44))], lp := [(3, ⟨[0, 1, 5, 6], [], [0, 5], []⟩)] } := by kernel_rfl
theorem QEX : T.at 117 = some { lp := [(2, ⟨[0, 1, 5], [], [], []⟩)], rt := ⟨[4], [], [], []⟩ } := by kernel_rfl
theorem QMY : T.at 118 = some { sh := [.a [0, 8, 3, 3, 5, 4, 5, 4, 0], .n] } := by kernel_rfl
theorem QPN : T.at 120 = some { sh := [.a [0, 8, 3, 3, 5, 4, 5, 4, 0], .n] } := by kernel_rfl
theorem QMC : T.at 122 = some { jn := [(2, (24, 11, 24))] } := by kernel_rfl
theorem QCn : T.at 123 = some { jn := [(6, (35, 16, 35))], lp := [(4, ⟨[1, 5, 6, 10, 11, 12], [.s 5 0], [5], [.s 5 0]⟩)] } := by kernel_rfl
theorem QNx : T.at 124 = some { sh := [.a [0, 8, 3, 3, 5, 4, 5, 4, 0], .n] } := by kernel_rfl
theorem QK4 : T.at 126 = some { ot := [(1, .one 0 (.one 2 (.alt (.one 1 (.one 3 (.one 4 (.one 5 (.done))))) (.one 3 (.one 1 (.one 4 (.one 5 (.done))))))))], sh := [.z 4, .n] } := by kernel_rfl
theorem QIM : T.at 127 = some { jn := [(6, (36, 20, 36)), (10, (42, 43, 53))], lp := [(4, ⟨[1, 2, 3, 7], [.s 3 0], [2, 3], [.s 3 0]⟩)], rt := ⟨[6], [], [], []⟩ } := by kernel_rfl
theorem QPf : T.at 128 = some { jn := [(4, (16, 17, 26)), (6, (26, 27, 35)), (8, (35, 36, 44))] } := by kernel_rfl
theorem QOV : T.at 132 = some { ot := [(5, .one 1 (.alt (.one 0 (.alt (.one 2 (.one 3 (.one 4 (.one 5 (.one 6 (.done)))))) (.one 3 (.alt (.one 2 (.one 4 (.one 5 (.one 6 (.done))))) (.one 4 (.one 2 (.one 5 (.one 6 (.done))))))))) (.one 3 (.alt (.one 0 (.alt (.one 2 (.one 4 (.one 5 (.one 6 (.done))))) (.one 4 (.one 2 (.one 5 (.one 6 (.done))))))) (.one 4 (.one 0 (.one 2 (.one 5 (.one 6 (.done))))))))))], sh := [.z 5, .n] } := by kernel_rfl
theorem QLL : T.at 133 = some {} := by kernel_rfl
theorem QQ0 : T.at 134 = some {} := by kernel_rfl
theorem QOl : T.at 138 = some { ot := [(5, .one 0 (.one 2 (.alt (.one 1 (.one 3 (.one 4 (.one 5 (.done))))) (.one 3 (.one 1 (.one 4 (.one 5 (.done))))))))], sh := [.z 5, .n] } := by kernel_rfl
theorem QPC : T.at 139 = some {} := by kernel_rfl
theorem QQZ : T.at 140 = some { jn := [(1, (12, 5, 12))] } := by kernel_rfl
theorem QMh : T.at 141 = some { sh := [.z 2] } := by kernel_rfl
theorem QPR : T.at 142 = some {} := by kernel_rfl
theorem QNl : T.at 143 = some { jn := [(1, (12, 5, 12))] } := by kernel_rfl
theorem QPQ : T.at 144 = some { sh := [.z 2] } := by kernel_rfl
theorem QN6 : T.at 145 = some {} := by kernel_rfl
theorem QK9 : T.at 146 = some {} := by kernel_rfl
theorem QEC : T.at 147 = some { ord := [(5, [0, 1, 2, 3, 4, 5, 6, 7, 8, 9, 10, 11, 13, 14, 15, 16, 17, 12, 18, 19, 20, 21])], eb := [(5, [18])], lp := [(3, ⟨[0, 3, 4], [.s 3 3], [3], [.s 3 3]⟩)], sh := [.z 3] } := by kernel_rfl
theorem QIG : T.at 148 = some { jn := [(4, (35, 10, 35))], lp := [(2, ⟨[0, 3], [], [0], []⟩)], rt := ⟨[2], [], [], []⟩ } := by kernel_rfl
theorem QDI : T.at 149 = some { jn := [(4, (61, 10, 61))], lp := [(2, ⟨[0, 3], [], [0], []⟩)], rt := ⟨[2], [], [], []⟩ } := by kernel_rfl
theorem Qyy : T.at 150 = some { jn := [(4, (53, 11, 53)), (9, (77, 59, 77))], lp := [(2, ⟨[0, 3], [], [0], []⟩), (7, ⟨[0, 3, 4], [], [0, 3], []⟩)], rt := ⟨[2], [], [], []⟩ } := by kernel_rfl
theorem QzE : T.at 151 = some { jn := [(5, (58, 16, 58)), (10, (84, 64, 84))], lp := [(2, ⟨[0, 3], [], [0], []⟩), (8, ⟨[0, 3, 4, 5], [.s 4 0], [0, 3], []⟩)], rt := ⟨[2], [], [], []⟩ } := by kernel_rfl
theorem QGm : T.at 152 = some { jn := [(3, (15, 7, 15)), (7, (67, 25, 67)), (10, (96, 73, 96))], lp := [(3, ⟨[0, 3, 4], [], [0], []⟩)], rt := ⟨[2], [], [], []⟩ } := by kernel_rfl
theorem QHo : T.at 153 = some { jn := [(5, (58, 15, 58))], lp := [(2, ⟨[0, 3], [], [0], []⟩)], rt := ⟨[2], [], [], []⟩ } := by kernel_rfl
theorem QwS : T.at 154 = some { ord := [(13, [0, 1, 2, 3, 4, 5, 6, 7, 8, 9, 10, 11, 14, 15, 12, 13, 16, 17, 18, 19, 20, 21, 22, 23, 24, 25, 26, 27, 28, 29])], jn := [(13, (77, 48, 77)), (18, (103, 85, 103))], lp := [(5, ⟨[1, 3, 4], [.s 1 0, .s 3 1], [1, 3], [.s 1 0, .s 3 1]⟩), (10, ⟨[1, 3, 5], [.s 1 0, .s 3 1], [1], [.s 1 0]⟩), (16, ⟨[1, 7], [.s 1 0], [], []⟩)], rt := ⟨[2], [], [], []⟩ } := by kernel_rfl
theorem QGp : T.at 155 = some { ord := [(8, [0, 1, 2, 3, 4, 5, 6, 7, 8, 9, 10, 11, 12, 13, 14, 15, 16, 17, 18, 19, 20, 21, 22, 23, 24, 25, 26, 27, 28, 29, 30, 32, 33, 34, 35, 36, 38, 31, 37, 39, 40, 41, 42, 43, 44, 45, 46, 47])], jn := [(8, (77, 30, 77))], lp := [(4, ⟨[1, 3], [.s 1 0], [], []⟩)], rt := ⟨[2], [], [], []⟩ } := by kernel_rfl
theorem QE1 : T.at 156 = some { jn := [(6, (34, 15, 34))], lp := [(4, ⟨[0, 8, 9, 10], [], [], []⟩)], rt := ⟨[2], [], [], []⟩ } := by kernel_rfl
theorem QIP : T.at 157 = some { jn := [(6, (51, 15, 51))], lp := [(4, ⟨[0, 8, 9, 10], [], [], []⟩)], rt := ⟨[2], [], [], []⟩ } := by kernel_rfl
theorem QE4 : T.at 158 = some { jn := [(6, (54, 15, 54))], lp := [(4, ⟨[0, 8, 9, 10], [], [], []⟩)], rt := ⟨[2], [], [], []⟩ } := by kernel_rfl
theorem QyU : T.at 159 = some { jn := [(6, (59, 17, 59)), (11, (82, 68, 82))], lp := [(4, ⟨[0, 10, 11, 12], [], [], []⟩), (9, ⟨[0, 4, 10, 11, 12, 62, 63, 64], [.s 4 0], [0, 10, 11, 12], []⟩)], rt := ⟨[2], [], [], []⟩ } := by kernel_rfl
theorem QJP : T.at 160 = some { jn := [(7, (61, 17, 61)), (13, (83, 73, 83))], lp := [(5, ⟨[0, 3, 10, 11, 12], [], [], []⟩)], rt := ⟨[2], [], [], []⟩ } := by kernel_rfl
theorem QHB : T.at 161 = some { jn := [(6, (58, 15, 58))], lp := [(4, ⟨[0, 8, 9, 10], [], [], []⟩)], rt := ⟨[2], [], [], []⟩ } := by kernel_rfl
theorem Qww : T.at 162 = some { ord := [(7, [0, 1, 2, 3, 4, 5, 6, 7, 8, 9, 10, 11, 12, 13, 14, 15, 18, 19, 20, 21, 16, 17, 22, 23, 24])], jn := [(7, (54, 30, 54)), (13, (73, 63, 73))], lp := [(5, ⟨[1, 3, 23, 24, 25], [.s 1 0, .s 3 1], [1, 3], [.s 1 0, .s 3 1]⟩), (11, ⟨[1, 3, 57, 58, 59], [.s 1 0, .s 3 1], [1, 3], [.s 1 0, .s 3 1]⟩), (17, ⟨[1, 75, 76, 77], [.s 1 0, .s 75 1], [], []⟩)], rt := ⟨[2], [], [], []⟩ } := by kernel_rfl
theorem QDC : T.at 163 = some { ord := [(7, [0, 1, 2, 3, 4, 5, 6, 7, 8, 9, 10, 11, 12, 13, 14, 15, 16, 17, 18, 19, 20, 21, 22, 24, 26, 27, 23, 25, 28, 29, 30])], jn := [(7, (56, 26, 56))], lp := [(4, ⟨[1, 14, 15, 16], [.s 1 0], [], []⟩)], rt := ⟨[2], [], [], []⟩ } := by kernel_rfl
theorem Qus : T.at 164 = some { lp := [(3, ⟨[1, 3, 13, 14, 15], [.s 1 0], [1, 3], [.s 1 0]⟩), (8, ⟨[1, 3, 25, 26, 27], [.s 1 0], [1, 3], [.s 1 0]⟩), (13, ⟨[1, 3, 37, 38, 39], [.s 1 0], [1, 3], [.s 1 0]⟩), (18, ⟨[3, 49, 50, 51], [], [3], []⟩)] } := by kernel_rfl
theorem QQQ : T.at 165 = some {} := by kernel_rfl
theorem QL2 : T.at 166 = some {} := by kernel_rfl
theorem QO4 : T.at 167 = some {} := by kernel_rfl
theorem QO5 : T.at 168 = some {} := by kernel_rfl
theorem QNa : T.at 169 = some {} := by kernel_rfl
theorem QDn : T.at 170 = some { lp := [(2, ⟨[0, 1, 5], [], [1], []⟩)], rt := ⟨[4], [], [], []⟩ } := by kernel_rfl
theorem QNH : T.at 171 = some {} := by kernel_rfl
theorem QLt : T.at 172 = some { sh := [.a [0, 2, 0]] } := by kernel_rfl
theorem QQE : T.at 173 = some {} := by kernel_rfl
theorem QKV : T.at 174 = some {} := by kernel_rfl
theorem QOJ : T.at 175 = some {} := by kernel_rfl
theorem QNq : T.at 176 = some {} := by kernel_rfl
theorem QLb : T.at 177 = some { sh := [.z 8] } := by kernel_rfl
theorem QHg : T.at 178 = some { lp := [(3, ⟨[3, 7, 8, 9], [.s 3 3], [3], [.s 3 3]⟩)], sh := [.z 3] } := by kernel_rfl
theorem QOF : T.at 179 = some { sh := [.z 5] } := by kernel_rfl
theorem QNy : T.at 180 = some { sh := [.z 4] } := by kernel_rfl
theorem QP6 : T.at 181 = some { sh := [.z 5] } := by kernel_rfl
theorem a182 : T.at 182 = some { sh := [.z 4] } := by kernel_rfl
theorem a183 : T.at 183 = some {} := by kernel_rfl
theorem QFn : T.at 184 = some { lp := [(2, ⟨[0, 1, 5], [], [], []⟩)], rt := ⟨[4], [], [], []⟩ } := by kernel_rfl
theorem QMO : T.at 187 = some { jn := [(1, (2, 3, 26))] } := by kernel_rfl
theorem QC8 : T.at 188 = some { jn := [(4, (43, 10, 43))], lp := [(2, ⟨[0, 3], [], [0], []⟩)], rt := ⟨[2], [], [], []⟩ } := by kernel_rfl
theorem QNw : T.at 189 = some {} := by kernel_rfl
theorem QDE : T.at 190 = some { lp := [(2, ⟨[0, 1, 7, 8], [], [], []⟩)], rt := ⟨[4], [], [], []⟩ } := by kernel_rfl
theorem QMQ : T.at 192 = some {} := by kernel_rfl
theorem QN3 : T.at 193 = some { sh := [.z 2] } := by kernel_rfl
theorem QOc : T.at 196 = some { jn := [(1, (2, 3, 26))] } := by kernel_rfl
theorem QJo : T.at 197 = some { jn := [(6, (39, 15, 39))], lp := [(4, ⟨[0, 8, 9, 10], [], [], []⟩)], rt := ⟨[2], [], [], []⟩ } := by kernel_rfl
theorem QOe : T.at 198 = some {} := by kernel_rfl
theorem QMj : T.at 199 = some {} := by kernel_rfl
theorem QHK : T.at 202 = some { lp := [(2, ⟨[0, 1, 7, 8], [], [], []⟩)], rt := ⟨[4], [], [], []⟩ } := by kernel_rfl
theorem QPE : T.at 203 = some {} := by kernel_rfl
theorem QGs : T.at 206 = some { jn := [(3, (21, 15, 21))], lp := [(6, ⟨[6, 7, 8], [.s 6 3], [6], [.s 6 3]⟩)], sh := [.z 3, .n] } := by kernel_rfl
theorem QLD : T.at 207 = some { ot := [(1, .one 1 (.alt (.one 0 (.alt (.one 2 (.one 3 (.one 4 (.one 5 (.one 6 (.done)))))) (.one 3 (.alt (.one 2 (.one 4 (.one 5 (.one 6 (.done))))) (.one 4 (.one 2 (.one 5 (.one 6 (.done))))))))) (.one 3 (.alt (.one 0 (.alt (.one 2 (.one 4 (.one 5 (.one 6 (.done))))) (.one 4 (.one 2 (.one 5 (.one 6 (.done))))))) (.one 4 (.one 0 (.one 2 (.one 5 (.one 6 (.done))))))))))], sh := [.z 4, .n] } := by kernel_rfl
theorem QQY : T.at 208 = some { jn := [(1, (2, 3, 26))] } := by kernel_rfl
theorem QN7 : T.at 209 = some {} := by kernel_rfl
theorem QQq : T.at 210 = some {} := by kernel_rfl
theorem QMg : T.at 211 = some { jn := [(3, (19, 13, 19))], sh := [.z 3, .n] } := by kernel_rfl
theorem QNU : T.at 212 = some { jn := [(1, (2, 3, 26))] } := by kernel_rfl
theorem QLU : T.at 213 = some { jn := [(1, (4, 5, 13))] } := by kernel_rfl
theorem QM6 : T.at 214 = some { jn := [(1, (4, 5, 13))] } := by kernel_rfl
theorem QQl : T.at 215 = some { jn := [(1, (3, 4, 14))] } := by kernel_rfl
theorem QQN : T.at 217 = some {} := by kernel_rfl
theorem QOf : T.at 221 = some {} := by kernel_rfl
theorem a222 : T.at 222 = some { jn := [(4, (26, 11, 26))], lp := [(2, ⟨[0, 3], [], [0], []⟩), (7, ⟨[0, 3, 4], [], [0, 3], []⟩)], rt := ⟨[2], [], [], []⟩ } := by kernel_rfl
theorem QAR : T.at 223 = some { ot := [(8, .one 1 (.one 2 (.one 3 (.one 5 (.one 6 (.one 11 (.one 12 (.one 13 (.alt (.one 0 (.alt (.one 4 (.one 7 (.one 8 (.one 9 (.one 10 (.one 14 (.one 15 (.done)))))))) (.one 7 (.alt (.one 4 (.one 8 (.one 9 (.one 10 (.one 14 (.one 15 (.done))))))) (.one 8 (.alt (.one 4 (.one 9 (.one 10 (.one 14 (.one 15 (.done)))))) (.one 9 (.one 4 (.one 10 (.one 14 (.one 15 (.done)))))))))))) (.one 7 (.alt (.one 0 (.alt (.one 4 (.one 8 (.one 9 (.one 10 (.one 14 (.one 15 (.done))))))) (.one 8 (.alt (.one 4 (.one 9 (.one 10 (.one 14 (.one 15 (.done)))))) (.one 9 (.one 4 (.one 10 (.one 14 (.one 15 (.done)))))))))) (.one 8 (.alt (.one 0 (.alt (.one 4 (.one 9 (.one 10 (.one 14 (.one 15 (.done)))))) (.one 9 (.one 4 (.one 10 (.one 14 (.one 15 (.done)))))))) (.one 9 (.one 0 (.one 4 (.one 10 (.one 14 (.one 15 (.done))))))))))))))))))))], fz := [(8, [3])], jn := [(6, (30, 15, 30))], lp := [(3, ⟨[0, 3, 4], [.s 3 3], [3], [.s 3 3]⟩), (6, ⟨[0, 3, 4, 5], [.s 3 3], [0, 3, 4, 5], [.s 3 3]⟩)], sh := [.z 3] } := by kernel_rfl
theorem QxD : T.at 224 = some { jn := [(9, (43, 31, 43))], lp := [(4, ⟨[0, 1, 5, 6, 7], [.s 5 1], [0, 1, 5, 6], [.s 5 1]⟩), (13, ⟨[0, 1, 5, 6, 8, 9], [.s 5 1], [5, 8], [.s 5 1]⟩), (18, ⟨[5, 8, 10], [.s 5 1], [5], [.s 5 1]⟩)], rt := ⟨[4], [.s 4 1], [], []⟩, sh := [.z 1] } := by kernel_rfl
theorem QGI : T.at 225 = some { jn := [(6, (24, 15, 24))], lp := [(4, ⟨[0, 8, 9, 10], [], [], []⟩)], rt := ⟨[2], [], [], []⟩ } := by kernel_rfl
theorem QK1 : T.at 226 = some { ac := [(2, 0)], sh := [.z 3] } := by kernel_rfl
theorem QwW : T.at 227 = some { jn := [(2, (23, 15, 23))], lp := [(6, ⟨[0, 1, 5, 6, 25, 26, 27], [.s 5 1], [0, 1, 5, 6], [.s 5 1]⟩), (16, ⟨[0, 5, 6, 9, 43, 44, 45], [.s 5 1], [5, 9], [.s 5 1]⟩), (23, ⟨[5, 9, 13], [.s 5 1], [5], [.s 5 1]⟩)], rt := ⟨[4], [.s 4 1], [], []⟩, sh := [.z 1] } := by kernel_rfl
theorem a228 : T.at 228 = some {} := by kernel_rfl
theorem a229 : T.at 229 = some { jn := [(1, (2, 3, 21))] } := by kernel_rfl
theorem QCk : T.at 230 = some { lp := [(3, ⟨[0, 1, 2, 7, 8], [], [7], []⟩)] } := by kernel_rfl
theorem QCZ : T.at 231 = some { jn := [(3, (16, 9, 16)), (6, (42, 28, 42))], lp := [(3, ⟨[0, 1, 5, 6], [.s 5 1], [5], [.s 5 1]⟩)], sh := [.z 1] } := by kernel_rfl
theorem QCt : T.at 232 = some { lp := [(2, ⟨[0, 1, 5], [], [], []⟩)], rt := ⟨[4], [], [], []⟩ } := by kernel_rfl
theorem QQz : T.at 233 = some { jn := [(1, (2, 3, 21))] } := by kernel_rfl
theorem QOX : T.at 234 = some {} := by kernel_rfl
theorem QEj : T.at 235 = some { lp := [(2, ⟨[0, 1, 5], [], [], []⟩)], rt := ⟨[4], [], [], []⟩ } := by kernel_rfl
theorem QDi : T.at 236 = some { ac := [(10, 0)], jn := [(7, (36, 20, 36))], lp := [(5, ⟨[0, 1, 5, 13, 14, 15], [.s 5 1], [5], [.s 5 1]⟩)], sh := [.z 1] } := by kernel_rfl
theorem QLy : T.at 237 = some {} := by kernel_rfl
theorem QLP : T.at 238 = some {} := by kernel_rfl
theorem QGx : T.at 239 = some { lp := [(2, ⟨[0, 1, 7, 8], [], [], []⟩)], rt := ⟨[4], [], [], []⟩ } := by kernel_rfl
theorem QGJ : T.at 241 = some { lp := [(2, ⟨[0, 1, 7, 8], [], [], []⟩)], rt := ⟨[4], [], [], []⟩ } := by kernel_rfl
theorem QNZ : T.at 242 = some {} := by kernel_rfl
theorem QCF : T.at 247 = some { lp := [(2, ⟨[0, 1, 7, 8], [], [], []⟩)], rt := ⟨[4], [], [], []⟩ } := by kernel_rfl
theorem QPL : T.at 248 = some {} := by kernel_rfl
theorem QOw : T.at 249 = some {} := by kernel_rfl
theorem QOP : T.at 250 = some {} := by kernel_rfl
theorem QGi : T.at 251 = some { lp := [(3, ⟨[0, 3, 4], [], [3], []⟩)] } := by kernel_rfl
theorem QDx : T.at 256 = some { lp := [(3, ⟨[3, 6, 7, 8], [], [3], []⟩)] } := by kernel_rfl
theorem QN0 : T.at 257 = some { jn := [(1, (2, 3, 11))] } := by kernel_rfl
theorem QO2 : T.at 258 = some {} := by kernel_rfl
theorem QPd : T.at 259 = some {} := by kernel_rfl
theorem QKS : T.at 260 = some { sh := [.z 3] } := by kernel_rfl
theorem QOh : T.at 261 = some { ak := [0], ac := [(0, 0)] } := by kernel_rfl
theorem QMf : T.at 262 = some {} := by kernel_rfl
theorem QPM : T.at 263 = some {} := by kernel_rfl
theorem QBO : T.at 264 = some { ot := [(6, .one 1 (.one 2 (.one 3 (.one 5 (.one 8 (.one 9 (.one 10 (.alt (.one 0 (.alt (.one 4 (.one 6 (.one 7 (.one 11 (.one 12 (.done)))))) (.one 6 (.one 4 (.one 7 (.one 11 (.one 12 (.done)))))))) (.one 6 (.one 0 (.one 4 (.one 7 (.one 11 (.one 12 (.done)))))))))))))))], jn := [(2, (17, 6, 17)), (4, (31, 20, 31))], lp := [(2, ⟨[0, 1, 5], [], [0, 1, 5], []⟩)], sh := [.z 1] } := by kernel_rfl
theorem QEe : T.at 266 = some { lp := [(2, ⟨[0, 1, 7, 8], [], [], []⟩)], rt := ⟨[4], [], [], []⟩ } := by kernel_rfl
theorem QMW : T.at 267 = some {} := by kernel_rfl
theorem QLS : T.at 270 = some { jn := [(5, (10, 11, 17))] } := by kernel_rfl
theorem QM7 : T.at 271 = some {} := by kernel_rfl
theorem QPz : T.at 274 = some {} := by kernel_rfl
theorem QJS : T.at 275 = some { lp := [(2, ⟨[0, 1, 7, 8], [], [], []⟩)], rt := ⟨[4], [], [], []⟩ } := by kernel_rfl
theorem Qv9 : T.at 276 = some { ak := [0], ac := [(3, 0), (6, 0)], lp := [(2, ⟨[0, 1, 2, 6, 7, 8], [.s 0 3], [0, 1, 2, 6, 7], [.s 0 3]⟩), (7, ⟨[0, 1, 2, 6], [.s 0 3], [0], [.s 0 3]⟩), (9, ⟨[0, 1, 2, 6, 7, 8], [.s 0 3], [0, 1, 2, 6, 7], [.s 0 3]⟩)] } := by kernel_rfl
theorem QOo : T.at 277 = some {} := by kernel_rfl
theorem QMk : T.at 283 = some {} := by kernel_rfl
theorem QzD : T.at 284 = some { ak := [0], jn := [(4, (34, 18, 34))], lp := [(1, ⟨[0, 1, 2, 3, 8], [.s 0 3], [0], [.s 0 3]⟩), (4, ⟨[0, 1, 2, 3, 8, 9], [.s 0 3], [0, 1, 2, 3, 8], [.s 0 3]⟩)] } := by kernel_rfl
end Go.Proofs.YtcdffihcfeajfaaGreat
