import Derived.Test.YtncpklppoancgaaGreatEvB
import Derived.Test.YtncpklppoancgaaGreatFn
import Derived.Test.YtncpklppoancgaaGreatProg
import Derived.KernelRfl
namespace Go.Proofs.YtncpklppoancgaaGreat
open Go Go.Proofs Go.Proofs.YtncpklppoancgaaGreat.Am
set_option maxHeartbeats 4000000
set_option linter.unusedVariables false
set_option linter.unusedSimpArgs false
set_option linter.defProp false
set_option maxRecDepth 100000
def Vj (x : Int) : List AV := [.i .i64 x]
theorem QkL (x : Int) : Vj x = [.i .i64 x] := _root_.id rfl
instance (x : Int) : EncR Vj [.i .i64 x] x := ⟨rfl⟩
theorem QyC (xs : List Int) : Qf (xs.map Vj) = xs.map Vj := Qal (fun x => by simp only [QkL, Q6, Ve]) xs
theorem Qzj (xs : List Int) : QD (xs.map Vj) = true := J4 (fun x => by simp only [QkL, Vm, AV.clean, Bool.and_self]) xs
theorem QA6 {R : List (List AV)} {xs : List Int} (i : Int) [h : EncL Vj R xs] : inb R i = inb xs i := by rw [h.eq, Qmy]
theorem Qz3 {R : List (List AV)} {xs : List Int} (i : Int) [h : EncL Vj R xs] (hi : inb xs i = true) : Qx R i.toNat = Vj (gt xs i) := by rw [h.eq, QmX xs i hi]
def QaQ (x : Int) : List AV := [.i .u8 x]
theorem Qod (x : Int) : QaQ x = [.i .u8 x] := _root_.id rfl
instance (x : Int) : EncR QaQ [.i .u8 x] x := ⟨rfl⟩
theorem QxC (xs : List Int) : Qf (xs.map QaQ) = xs.map QaQ := Qal (fun x => by simp only [Qod, Q6, Ve]) xs
theorem QxA (xs : List Int) : QD (xs.map QaQ) = true := J4 (fun x => by simp only [Qod, Vm, AV.clean, Bool.and_self]) xs
theorem QCt {R : List (List AV)} {xs : List Int} (i : Int) [h : EncL QaQ R xs] : inb R i = inb xs i := by rw [h.eq, Qmy]
theorem QGt {R : List (List AV)} {xs : List Int} (i : Int) [h : EncL QaQ R xs] (hi : inb xs i = true) : Qx R i.toNat = QaQ (gt xs i) := by rw [h.eq, QmX xs i hi]
def c_b (x : Bool) : List AV := [.b x]
theorem Qs0 (x : Bool) : c_b x = [.b x] := _root_.id rfl
instance (x : Bool) : EncR c_b [.b x] x := ⟨rfl⟩
theorem QLn (xs : List Bool) : Qf (xs.map c_b) = xs.map c_b := Qal (fun x => by simp only [Qs0, Q6, Ve]) xs
theorem QJN (xs : List Bool) : QD (xs.map c_b) = true := J4 (fun x => by simp only [Qs0, Vm, AV.clean, Bool.and_self]) xs
theorem QJ6 {R : List (List AV)} {xs : List Bool} (i : Int) [h : EncL c_b R xs] : inb R i = inb xs i := by rw [h.eq, Qmy]
theorem QMv {R : List (List AV)} {xs : List Bool} (i : Int) [h : EncL c_b R xs] (hi : inb xs i = true) : Qx R i.toNat = c_b (gt xs i) := by rw [h.eq, QmX xs i hi]
def c_s (x : List UInt8) : List AV := [.s x]
theorem Qr6 (x : List UInt8) : c_s x = [.s x] := _root_.id rfl
instance (x : List UInt8) : EncR c_s [.s x] x := ⟨rfl⟩
theorem QMi (xs : List (List UInt8)) : Qf (xs.map c_s) = xs.map c_s := Qal (fun x => by simp only [Qr6, Q6, Ve]) xs
theorem QI5 (xs : List (List UInt8)) : QD (xs.map c_s) = true := J4 (fun x => by simp only [Qr6, Vm, AV.clean, Bool.and_self]) xs
theorem QLN {R : List (List AV)} {xs : List (List UInt8)} (i : Int) [h : EncL c_s R xs] : inb R i = inb xs i := by rw [h.eq, Qmy]
theorem QM0 {R : List (List AV)} {xs : List (List UInt8)} (i : Int) [h : EncL c_s R xs] (hi : inb xs i = true) : Qx R i.toNat = c_s (gt xs i) := by rw [h.eq, QmX xs i hi]
def Qo (x : l1Cur) : List AV := [.imm 1 (x.b.map QaQ), .i .i64 x.i, .i .i64 x.h]
theorem QmF (x : l1Cur) : Qo x = [.imm 1 (x.b.map QaQ), .i .i64 x.i, .i .i64 x.h] := _root_.id rfl
instance (yxi yxh) {R1 yxb} [H1 : EncL QaQ R1 yxb] : EncR Qo [.imm 1 R1, .i .i64 yxi, .i .i64 yxh] (⟨yxb, yxi, yxh⟩ : l1Cur) := ⟨by obtain ⟨rfl⟩ := H1; rfl⟩
def QhJ (x : l1Cur) : List AV := [.own 1 (x.b.map QaQ), .i .i64 x.i, .i .i64 x.h]
theorem QgL (x : l1Cur) : QhJ x = [.own 1 (x.b.map QaQ), .i .i64 x.i, .i .i64 x.h] := _root_.id rfl
instance (yxi yxh) {R1 yxb} [H1 : EncL QaQ R1 yxb] : EncR QhJ [.own 1 R1, .i .i64 yxi, .i .i64 yxh] (⟨yxb, yxi, yxh⟩ : l1Cur) := ⟨by obtain ⟨rfl⟩ := H1; rfl⟩
theorem Qso (xs : List l1Cur) : Qf (xs.map QhJ) = xs.map Qo := Qal (fun x => by simp only [QgL, QmF, Q6, Ve, QxC]) xs
theorem QsI (xs : List l1Cur) : QD (xs.map QhJ) = true := J4 (fun x => by simp only [QgL, Vm, AV.clean, Bool.and_self, QxA]) xs
theorem QsY (x : l1Cur) : (⟨x.b, x.i, x.h⟩ : l1Cur) = x := _root_.id rfl
def QbH (x : Thing) : List AV := [.i .i64 x.Id, .i .i64 x.Kind, .i .i64 x.Colour, .i .i64 x.Size, .i .i64 x.Worth]
theorem Qi4 (x : Thing) : QbH x = [.i .i64 x.Id, .i .i64 x.Kind, .i .i64 x.Colour, .i .i64 x.Size, .i .i64 x.Worth] := _root_.id rfl
instance (yxId yxKind yxColour yxSize yxWorth)  : EncR QbH [.i .i64 yxId, .i .i64 yxKind, .i .i64 yxColour, .i .i64 yxSize, .i .i64 yxWorth] (⟨yxId, yxKind, yxColour, yxSize, yxWorth⟩ : Thing) := ⟨by rfl⟩
theorem Qs8 (xs : List Thing) : Qf (xs.map QbH) = xs.map QbH := Qal (fun x => by simp only [Qi4, Q6, Ve]) xs
theorem Qr3 (xs : List Thing) : QD (xs.map QbH) = true := J4 (fun x => by simp only [Qi4, Vm, AV.clean, Bool.and_self]) xs
theorem Qr0 (x : Thing) : (⟨x.Id, x.Kind, x.Colour, x.Size, x.Worth⟩ : Thing) = x := _root_.id rfl
def VL (x : Find) : List AV := [.i .i64 x.Thing.Id, .i .i64 x.Thing.Kind, .i .i64 x.Thing.Colour, .i .i64 x.Thing.Size, .i .i64 x.Thing.Worth, .i .i64 x.Place, .i .i64 x.At, .i .i64 x.Finder]
theorem Qlv (x : Find) : VL x = [.i .i64 x.Thing.Id, .i .i64 x.Thing.Kind, .i .i64 x.Thing.Colour, .i .i64 x.Thing.Size, .i .i64 x.Thing.Worth, .i .i64 x.Place, .i .i64 x.At, .i .i64 x.Finder] := _root_.id rfl
instance (yxThingxId yxThingxKind yxThingxColour yxThingxSize yxThingxWorth yxPlace yxAt yxFinder)  : EncR VL [.i .i64 yxThingxId, .i .i64 yxThingxKind, .i .i64 yxThingxColour, .i .i64 yxThingxSize, .i .i64 yxThingxWorth, .i .i64 yxPlace, .i .i64 yxAt, .i .i64 yxFinder] (⟨⟨yxThingxId, yxThingxKind, yxThingxColour, yxThingxSize, yxThingxWorth⟩, yxPlace, yxAt, yxFinder⟩ : Find) := ⟨by rfl⟩
theorem Qpx (xs : List Find) : Qf (xs.map VL) = xs.map VL := Qal (fun x => by simp only [Qlv, Q6, Ve]) xs
theorem Qpp (xs : List Find) : QD (xs.map VL) = true := J4 (fun x => by simp only [Qlv, Vm, AV.clean, Bool.and_self]) xs
theorem Qv6 (x : Find) : (⟨x.Thing, x.Place, x.At, x.Finder⟩ : Find) = x := _root_.id rfl
def VF (x : Mark) : List AV := [.i .i64 x.Question, .i .i64 x.Answer]
theorem Qlt (x : Mark) : VF x = [.i .i64 x.Question, .i .i64 x.Answer] := _root_.id rfl
instance (yxQuestion yxAnswer)  : EncR VF [.i .i64 yxQuestion, .i .i64 yxAnswer] (⟨yxQuestion, yxAnswer⟩ : Mark) := ⟨by rfl⟩
theorem Qpq (xs : List Mark) : Qf (xs.map VF) = xs.map VF := Qal (fun x => by simp only [Qlt, Q6, Ve]) xs
theorem Qpf (xs : List Mark) : QD (xs.map VF) = true := J4 (fun x => by simp only [Qlt, Vm, AV.clean, Bool.and_self]) xs
theorem Qu9 (x : Mark) : (⟨x.Question, x.Answer⟩ : Mark) = x := _root_.id rfl
def QV (x : Slot) : List AV := [.i .i64 x.Id, .i .i64 x.Size, .i .i64 x.Thing]
theorem Qk8 (x : Slot) : QV x = [.i .i64 x.Id, .i .i64 x.Size, .i .i64 x.Thing] := _root_.id rfl
instance (yxId yxSize yxThing)  : EncR QV [.i .i64 yxId, .i .i64 yxSize, .i .i64 yxThing] (⟨yxId, yxSize, yxThing⟩ : Slot) := ⟨by rfl⟩
theorem Qpo (xs : List Slot) : Qf (xs.map QV) = xs.map QV := Qal (fun x => by simp only [Qk8, Q6, Ve]) xs
theorem QpE (xs : List Slot) : QD (xs.map QV) = true := J4 (fun x => by simp only [Qk8, Vm, AV.clean, Bool.and_self]) xs
theorem Qxk (x : Slot) : (⟨x.Id, x.Size, x.Thing⟩ : Slot) = x := _root_.id rfl
def QK (x : Claim) : List AV := [.i .i64 x.Id, .i .i64 x.Who, .i .i64 x.Thing, .i .i64 x.At, .i .i64 x.State]
theorem Qi3 (x : Claim) : QK x = [.i .i64 x.Id, .i .i64 x.Who, .i .i64 x.Thing, .i .i64 x.At, .i .i64 x.State] := _root_.id rfl
instance (yxId yxWho yxThing yxAt yxState)  : EncR QK [.i .i64 yxId, .i .i64 yxWho, .i .i64 yxThing, .i .i64 yxAt, .i .i64 yxState] (⟨yxId, yxWho, yxThing, yxAt, yxState⟩ : Claim) := ⟨by rfl⟩
theorem QmV (xs : List Claim) : Qf (xs.map QK) = xs.map QK := Qal (fun x => by simp only [Qi3, Q6, Ve]) xs
theorem Qmr (xs : List Claim) : QD (xs.map QK) = true := J4 (fun x => by simp only [Qi3, Vm, AV.clean, Bool.and_self]) xs
theorem Qtg (x : Claim) : (⟨x.Id, x.Who, x.Thing, x.At, x.State⟩ : Claim) = x := _root_.id rfl
def Xh (x : Trial) : List AV := [.i .i64 x.Claim, .i .i64 x.Asked, .i .i64 x.Right, .i .i64 x.Wrong]
theorem Qh1 (x : Trial) : Xh x = [.i .i64 x.Claim, .i .i64 x.Asked, .i .i64 x.Right, .i .i64 x.Wrong] := _root_.id rfl
instance (yxClaim yxAsked yxRight yxWrong)  : EncR Xh [.i .i64 yxClaim, .i .i64 yxAsked, .i .i64 yxRight, .i .i64 yxWrong] (⟨yxClaim, yxAsked, yxRight, yxWrong⟩ : Trial) := ⟨by rfl⟩
theorem Qmj (xs : List Trial) : Qf (xs.map Xh) = xs.map Xh := Qal (fun x => by simp only [Qh1, Q6, Ve]) xs
theorem Qnp (xs : List Trial) : QD (xs.map Xh) = true := J4 (fun x => by simp only [Qh1, Vm, AV.clean, Bool.and_self]) xs
theorem Qsd (x : Trial) : (⟨x.Claim, x.Asked, x.Right, x.Wrong⟩ : Trial) = x := _root_.id rfl
def Vo (x : Hand) : List AV := [.i .i64 x.Thing, .i .i64 x.Holder, .i .i64 x.Who, .i .i64 x.At, .i .i64 x.Seal]
theorem QkK (x : Hand) : Vo x = [.i .i64 x.Thing, .i .i64 x.Holder, .i .i64 x.Who, .i .i64 x.At, .i .i64 x.Seal] := _root_.id rfl
instance (yxThing yxHolder yxWho yxAt yxSeal)  : EncR Vo [.i .i64 yxThing, .i .i64 yxHolder, .i .i64 yxWho, .i .i64 yxAt, .i .i64 yxSeal] (⟨yxThing, yxHolder, yxWho, yxAt, yxSeal⟩ : Hand) := ⟨by rfl⟩
theorem QpM (xs : List Hand) : Qf (xs.map Vo) = xs.map Vo := Qal (fun x => by simp only [QkK, Q6, Ve]) xs
theorem Qqq (xs : List Hand) : QD (xs.map Vo) = true := J4 (fun x => by simp only [QkK, Vm, AV.clean, Bool.and_self]) xs
theorem Qxb (x : Hand) : (⟨x.Thing, x.Holder, x.Who, x.At, x.Seal⟩ : Hand) = x := _root_.id rfl
def VB (x : Entry) : List AV := [.i .i64 x.From, .i .i64 x.To, .i .i64 x.Cents, .i .i64 x.At]
theorem Qi8 (x : Entry) : VB x = [.i .i64 x.From, .i .i64 x.To, .i .i64 x.Cents, .i .i64 x.At] := _root_.id rfl
instance (yxFrom yxTo yxCents yxAt)  : EncR VB [.i .i64 yxFrom, .i .i64 yxTo, .i .i64 yxCents, .i .i64 yxAt] (⟨yxFrom, yxTo, yxCents, yxAt⟩ : Entry) := ⟨by rfl⟩
theorem QlT (xs : List Entry) : Qf (xs.map VB) = xs.map VB := Qal (fun x => by simp only [Qi8, Q6, Ve]) xs
theorem QlX (xs : List Entry) : QD (xs.map VB) = true := J4 (fun x => by simp only [Qi8, Vm, AV.clean, Bool.and_self]) xs
theorem Qtm (x : Entry) : (⟨x.From, x.To, x.Cents, x.At⟩ : Entry) = x := _root_.id rfl
def Vb (x : Secret) : List AV := [.i .i64 x.Thing, .imm 2 (x.Marks.map VF), .i .i64 x.Salt]
theorem QjR (x : Secret) : Vb x = [.i .i64 x.Thing, .imm 2 (x.Marks.map VF), .i .i64 x.Salt] := _root_.id rfl
instance (yxThing yxSalt) {R1 yxMarks} [H1 : EncL VF R1 yxMarks] : EncR Vb [.i .i64 yxThing, .imm 2 R1, .i .i64 yxSalt] (⟨yxThing, yxMarks, yxSalt⟩ : Secret) := ⟨by obtain ⟨rfl⟩ := H1; rfl⟩
def XA (x : Secret) : List AV := [.i .i64 x.Thing, .own 2 (x.Marks.map VF), .i .i64 x.Salt]
theorem Qe9 (x : Secret) : XA x = [.i .i64 x.Thing, .own 2 (x.Marks.map VF), .i .i64 x.Salt] := _root_.id rfl
instance (yxThing yxSalt) {R1 yxMarks} [H1 : EncL VF R1 yxMarks] : EncR XA [.i .i64 yxThing, .own 2 R1, .i .i64 yxSalt] (⟨yxThing, yxMarks, yxSalt⟩ : Secret) := ⟨by obtain ⟨rfl⟩ := H1; rfl⟩
theorem QjO (xs : List Secret) : Qf (xs.map XA) = xs.map Vb := Qal (fun x => by simp only [Qe9, QjR, Q6, Ve, Qpq]) xs
theorem Qj2 (xs : List Secret) : QD (xs.map XA) = true := J4 (fun x => by simp only [Qe9, Vm, AV.clean, Bool.and_self, Qpf]) xs
theorem Qq1 (x : Secret) : (⟨x.Thing, x.Marks, x.Salt⟩ : Secret) = x := _root_.id rfl
def Vg (x : House) : List AV := [.i .i64 x.No, .imm 8 (x.Finds.map VL), .imm 3 (x.Secrets.map Vb), .imm 3 (x.Slots.map QV), .imm 5 (x.Claims.map QK), .imm 4 (x.Trials.map Xh), .imm 5 (x.Chain.map Vo), .imm 4 (x.Book.map VB), .i .i64 x.Now]
theorem QlE (x : House) : Vg x = [.i .i64 x.No, .imm 8 (x.Finds.map VL), .imm 3 (x.Secrets.map Vb), .imm 3 (x.Slots.map QV), .imm 5 (x.Claims.map QK), .imm 4 (x.Trials.map Xh), .imm 5 (x.Chain.map Vo), .imm 4 (x.Book.map VB), .i .i64 x.Now] := _root_.id rfl
instance (yxNo yxNow) {R1 yxFinds R2 yxSecrets R3 yxSlots R4 yxClaims R5 yxTrials R6 yxChain R7 yxBook} [H1 : EncL VL R1 yxFinds] [H2 : EncL Vb R2 yxSecrets] [H3 : EncL QV R3 yxSlots] [H4 : EncL QK R4 yxClaims] [H5 : EncL Xh R5 yxTrials] [H6 : EncL Vo R6 yxChain] [H7 : EncL VB R7 yxBook] : EncR Vg [.i .i64 yxNo, .imm 8 R1, .imm 3 R2, .imm 3 R3, .imm 5 R4, .imm 4 R5, .imm 5 R6, .imm 4 R7, .i .i64 yxNow] (⟨yxNo, yxFinds, yxSecrets, yxSlots, yxClaims, yxTrials, yxChain, yxBook, yxNow⟩ : House) := ⟨by obtain ⟨rfl⟩ := H1; obtain ⟨rfl⟩ := H2; obtain ⟨rfl⟩ := H3; obtain ⟨rfl⟩ := H4; obtain ⟨rfl⟩ := H5; obtain ⟨rfl⟩ := H6; obtain ⟨rfl⟩ := H7; rfl⟩
def Qae (x : House) : List AV := [.i .i64 x.No, .own 8 (x.Finds.map VL), .own 3 (x.Secrets.map XA), .own 3 (x.Slots.map QV), .own 5 (x.Claims.map QK), .own 4 (x.Trials.map Xh), .own 5 (x.Chain.map Vo), .own 4 (x.Book.map VB), .i .i64 x.Now]
theorem Qgt (x : House) : Qae x = [.i .i64 x.No, .own 8 (x.Finds.map VL), .own 3 (x.Secrets.map XA), .own 3 (x.Slots.map QV), .own 5 (x.Claims.map QK), .own 4 (x.Trials.map Xh), .own 5 (x.Chain.map Vo), .own 4 (x.Book.map VB), .i .i64 x.Now] := _root_.id rfl
instance (yxNo yxNow) {R1 yxFinds R2 yxSecrets R3 yxSlots R4 yxClaims R5 yxTrials R6 yxChain R7 yxBook} [H1 : EncL VL R1 yxFinds] [H2 : EncL XA R2 yxSecrets] [H3 : EncL QV R3 yxSlots] [H4 : EncL QK R4 yxClaims] [H5 : EncL Xh R5 yxTrials] [H6 : EncL Vo R6 yxChain] [H7 : EncL VB R7 yxBook] : EncR Qae [.i .i64 yxNo, .own 8 R1, .own 3 R2, .own 3 R3, .own 5 R4, .own 4 R5, .own 5 R6, .own 4 R7, .i .i64 yxNow] (⟨yxNo, yxFinds, yxSecrets, yxSlots, yxClaims, yxTrials, yxChain, yxBook, yxNow⟩ : House) := ⟨by obtain ⟨rfl⟩ := H1; obtain ⟨rfl⟩ := H2; obtain ⟨rfl⟩ := H3; obtain ⟨rfl⟩ := H4; obtain ⟨rfl⟩ := H5; obtain ⟨rfl⟩ := H6; obtain ⟨rfl⟩ := H7; rfl⟩
theorem Qte (xs : List House) : Qf (xs.map Qae) = xs.map Vg := Qal (fun x => by simp only [Qgt, QlE, Q6, Ve, QmV, QlT, Qpx, QpM, QjO, Qpo, Qmj]) xs
theorem Qs2 (xs : List House) : QD (xs.map Qae) = true := J4 (fun x => by simp only [Qgt, Vm, AV.clean, Bool.and_self, Qmr, QlX, Qpp, Qqq, Qj2, QpE, Qnp]) xs
theorem Qsh (x : House) : (⟨x.No, x.Finds, x.Secrets, x.Slots, x.Claims, x.Trials, x.Chain, x.Book, x.Now⟩ : House) = x := _root_.id rfl
def QED := aI @QkL <| aI @QyC <| aI @Qzj <| aI @QA6 <| aI @Qz3 <| aI @Qod <| aI @QxC <| aI @QxA <| aI @QCt <| aI @QGt <| aI @Qs0 <| aI @QLn <| aI @QJN <| aI @QJ6 <| aI @QMv <| aI @Qr6 <| aI @QMi <| aI @QI5 <| aI @QLN <| aI @QM0 <| aI @QmF <| aI @Qso <| aI @QsI <| aI @QsY <| aI @QgL <| aI @Qi4 <| aI @Qs8 <| aI @Qr3 <| aI @Qr0 <| aI @Qlv <| aI @Qpx <| aI @Qpp <| aI @Qv6 <| aI @Qlt <| aI @Qpq <| aI @Qpf <| aI @Qu9 <| aI @Qk8 <| aI @Qpo <| aI @QpE <| aI @Qxk <| aI @Qi3 <| aI @QmV <| aI @Qmr <| aI @Qtg <| aI @Qh1 <| aI @Qmj <| aI @Qnp <| aI @Qsd <| aI @QkK <| aI @QpM <| aI @Qqq <| aI @Qxb <| aI @Qi8 <| aI @QlT <| aI @QlX <| aI @Qtm <| aI @QjR <| aI @QjO <| aI @Qj2 <| aI @Qq1 <| aI @Qe9 <| aI @QlE <| aI @Qte <| aI @Qs2 <| aI @Qsh <| aI @Qgt <| aI @Qrb <| aI @Qrv <| aI @Qq0 <| aI @Qn4 <| aI @QoN <| aI @Qro @Qof
theorem tys : bsl Tryz.prog 5 = false ∧ flT Tryz.prog 58 = false ∧ Qg6 Tryz.prog 24 = true ∧ Qg6 Tryz.prog 58 = true ∧ slz Tryz.prog 9 58 = [2] ∧ QcF Tryz.prog 24 = [0, 0, 0] ∧ QcF Tryz.prog 27 = [0, 0, 0, 0, 0, 0, 0, 0] ∧ QcF Tryz.prog 28 = [0, 2, 0] ∧ QcF Tryz.prog 29 = [0, 0, 0, 0, 0] ∧ QcF Tryz.prog 30 = [0, 0, 0, 0] ∧ QcF Tryz.prog 31 = [0, 0, 0, 0, 0] ∧ QcF Tryz.prog 32 = [0, 0, 0, 0] ∧ QcF Tryz.prog 40 = [0] ∧ QcF Tryz.prog 58 = [0, 0] ∧ tb Tryz.prog 101 = some 32 ∧ tb Tryz.prog 107 = some 40 ∧ tb Tryz.prog 119 = some 40 ∧ tb Tryz.prog 171 = some 16 ∧ tb Tryz.prog 3 = some 8 ∧ tb Tryz.prog 48 = some 32 ∧ tb Tryz.prog 57 = some 64 ∧ tb Tryz.prog 83 = some 24 ∧ tb Tryz.prog 93 = some 40 ∧ tbd Tryz.prog 101 = .st [.i .i64 0, .i .i64 0, .i .i64 0, .i .i64 0] [(0, 1), (1, 1), (2, 1), (3, 1)] ∧ tbd Tryz.prog 107 = .st [.i .i64 0, .i .i64 0, .i .i64 0, .i .i64 0, .i .i64 0] [(0, 1), (1, 1), (2, 1), (3, 1), (4, 1)] ∧ tbd Tryz.prog 119 = .st [.i .i64 0, .nil, .i .i64 0] [(0, 1), (1, 1), (2, 1)] ∧ tbd Tryz.prog 148 = .st [.nil, .i .i64 0, .i .i64 0] [(0, 1), (1, 1), (2, 1)] ∧ tbd Tryz.prog 171 = .st [.i .i64 0, .i .i64 0] [(0, 1), (1, 1)] ∧ tbd Tryz.prog 34 = .st [.i .i64 0, .nil, .nil, .nil, .nil, .nil, .nil, .nil, .i .i64 0] [(0, 1), (1, 1), (2, 1), (3, 1), (4, 1), (5, 1), (6, 1), (7, 1), (8, 1)] ∧ tbd Tryz.prog 48 = .st [.i .i64 0, .i .i64 0, .i .i64 0, .i .i64 0] [(0, 1), (1, 1), (2, 1), (3, 1)] ∧ tbd Tryz.prog 55 = .st [.i .i64 0, .i .i64 0, .i .i64 0, .i .i64 0, .i .i64 0] [(0, 1), (1, 1), (2, 1), (3, 1), (4, 1)] ∧ tbd Tryz.prog 57 = .st [.i .i64 0, .i .i64 0, .i .i64 0, .i .i64 0, .i .i64 0, .i .i64 0, .i .i64 0, .i .i64 0] [(0, 5), (5, 1), (6, 1), (7, 1)] ∧ tbd Tryz.prog 83 = .st [.i .i64 0, .i .i64 0, .i .i64 0] [(0, 1), (1, 1), (2, 1)] ∧ tbd Tryz.prog 93 = .st [.i .i64 0, .i .i64 0, .i .i64 0, .i .i64 0, .i .i64 0] [(0, 1), (1, 1), (2, 1), (3, 1), (4, 1)] ∧ QcI Tryz.prog 101 = some [.i, .i, .i, .i] ∧ QcI Tryz.prog 107 = some [.i, .i, .i, .i, .i] ∧ QcI Tryz.prog 171 = some [.i, .i] ∧ QcI Tryz.prog 4 = some [.t] ∧ QcI Tryz.prog 48 = some [.i, .i, .i, .i] ∧ QcI Tryz.prog 57 = some [.i, .i, .i, .i, .i, .i, .i, .i] ∧ QcI Tryz.prog 83 = some [.i, .i, .i] ∧ QcI Tryz.prog 93 = some [.i, .i, .i, .i, .i] ∧ tfo Tryz.prog 101 0 = some (0, .one) ∧ tfo Tryz.prog 101 1 = some (1, .one) ∧ tfo Tryz.prog 101 2 = some (2, .one) ∧ tfo Tryz.prog 101 3 = some (3, .one) ∧ tfo Tryz.prog 107 0 = some (0, .one) ∧ tfo Tryz.prog 107 1 = some (1, .one) ∧ tfo Tryz.prog 107 2 = some (2, .one) ∧ tfo Tryz.prog 107 3 = some (3, .one) ∧ tfo Tryz.prog 107 4 = some (4, .one) ∧ tfo Tryz.prog 119 0 = some (0, .one) ∧ tfo Tryz.prog 119 1 = some (1, .one) ∧ tfo Tryz.prog 119 2 = some (2, .one) ∧ tfo Tryz.prog 148 0 = some (0, .one) ∧ tfo Tryz.prog 148 1 = some (1, .one) ∧ tfo Tryz.prog 148 2 = some (2, .one) ∧ tfo Tryz.prog 171 0 = some (0, .one) ∧ tfo Tryz.prog 171 1 = some (1, .one) ∧ tfo Tryz.prog 34 0 = some (0, .one) ∧ tfo Tryz.prog 34 1 = some (1, .one) ∧ tfo Tryz.prog 34 2 = some (2, .one) ∧ tfo Tryz.prog 34 3 = some (3, .one) ∧ tfo Tryz.prog 34 4 = some (4, .one) ∧ tfo Tryz.prog 34 5 = some (5, .one) ∧ tfo Tryz.prog 34 6 = some (6, .one) ∧ tfo Tryz.prog 34 7 = some (7, .one) ∧ tfo Tryz.prog 34 8 = some (8, .one) ∧ tfo Tryz.prog 48 0 = some (0, .one) ∧ tfo Tryz.prog 48 1 = some (1, .one) ∧ tfo Tryz.prog 48 2 = some (2, .one) ∧ tfo Tryz.prog 48 3 = some (3, .one) ∧ tfo Tryz.prog 55 0 = some (0, .one) ∧ tfo Tryz.prog 55 1 = some (1, .one) ∧ tfo Tryz.prog 55 2 = some (2, .one) ∧ tfo Tryz.prog 55 3 = some (3, .one) ∧ tfo Tryz.prog 55 4 = some (4, .one) ∧ tfo Tryz.prog 57 0 = some (0, .agg 5) ∧ tfo Tryz.prog 57 1 = some (5, .one) ∧ tfo Tryz.prog 57 2 = some (6, .one) ∧ tfo Tryz.prog 57 3 = some (7, .one) ∧ tfo Tryz.prog 83 0 = some (0, .one) ∧ tfo Tryz.prog 83 1 = some (1, .one) ∧ tfo Tryz.prog 83 2 = some (2, .one) ∧ tfo Tryz.prog 93 0 = some (0, .one) ∧ tfo Tryz.prog 93 1 = some (1, .one) ∧ tfo Tryz.prog 93 2 = some (2, .one) ∧ tfo Tryz.prog 93 3 = some (3, .one) ∧ tfo Tryz.prog 93 4 = some (4, .one) ∧ ti Tryz.prog 22 = .sl 5 1 ∧ ti Tryz.prog 24 = .sl 83 3 ∧ ti Tryz.prog 27 = .sl 57 8 ∧ ti Tryz.prog 28 = .sl 119 3 ∧ ti Tryz.prog 29 = .sl 107 5 ∧ ti Tryz.prog 3 = .int .i64 ∧ ti Tryz.prog 30 = .sl 48 4 ∧ ti Tryz.prog 31 = .sl 93 5 ∧ ti Tryz.prog 32 = .sl 101 4 ∧ ti Tryz.prog 40 = .sl 3 1 ∧ ti Tryz.prog 58 = .sl 171 2 ∧ tk Tryz.prog 101 = .agg 4 ∧ tk Tryz.prog 107 = .agg 5 ∧ tk Tryz.prog 119 = .agg 3 ∧ tk Tryz.prog 171 = .agg 2 ∧ tk Tryz.prog 22 = .one ∧ tk Tryz.prog 24 = .one ∧ tk Tryz.prog 27 = .one ∧ tk Tryz.prog 28 = .one ∧ tk Tryz.prog 29 = .one ∧ tk Tryz.prog 3 = .one ∧ tk Tryz.prog 30 = .one ∧ tk Tryz.prog 31 = .one ∧ tk Tryz.prog 32 = .one ∧ tk Tryz.prog 34 = .agg 9 ∧ tk Tryz.prog 48 = .agg 4 ∧ tk Tryz.prog 5 = .one ∧ tk Tryz.prog 55 = .agg 5 ∧ tk Tryz.prog 57 = .agg 8 ∧ tk Tryz.prog 58 = .one ∧ tk Tryz.prog 83 = .agg 3 ∧ tk Tryz.prog 93 = .agg 5 ∧ Z5 Tryz.prog 24 = true ∧ Z5 Tryz.prog 27 = true ∧ Z5 Tryz.prog 28 = true ∧ Z5 Tryz.prog 29 = true ∧ Z5 Tryz.prog 30 = true ∧ Z5 Tryz.prog 31 = true ∧ Z5 Tryz.prog 32 = true ∧ Z5 Tryz.prog 40 = true ∧ Z5 Tryz.prog 58 = true ∧ tok Tryz.prog 5 = true ∧ tse Tryz.prog 24 = some (83, 3, [.i .i64 0, .i .i64 0, .i .i64 0]) ∧ tse Tryz.prog 27 = some (57, 8, [.i .i64 0, .i .i64 0, .i .i64 0, .i .i64 0, .i .i64 0, .i .i64 0, .i .i64 0, .i .i64 0]) ∧ tse Tryz.prog 28 = some (119, 3, [.i .i64 0, .nil, .i .i64 0]) ∧ tse Tryz.prog 29 = some (107, 5, [.i .i64 0, .i .i64 0, .i .i64 0, .i .i64 0, .i .i64 0]) ∧ tse Tryz.prog 30 = some (48, 4, [.i .i64 0, .i .i64 0, .i .i64 0, .i .i64 0]) ∧ tse Tryz.prog 31 = some (93, 5, [.i .i64 0, .i .i64 0, .i .i64 0, .i .i64 0, .i .i64 0]) ∧ tse Tryz.prog 32 = some (101, 4, [.i .i64 0, .i .i64 0, .i .i64 0, .i .i64 0]) ∧ tse Tryz.prog 40 = some (3, 1, [.i .i64 0]) ∧ tse Tryz.prog 58 = some (171, 2, [.i .i64 0, .i .i64 0]) ∧ tzc Tryz.prog 101 = some [.i .i64 0, .i .i64 0, .i .i64 0, .i .i64 0] ∧ tzc Tryz.prog 107 = some [.i .i64 0, .i .i64 0, .i .i64 0, .i .i64 0, .i .i64 0] ∧ tzc Tryz.prog 119 = some [.i .i64 0, .nil, .i .i64 0] ∧ tzc Tryz.prog 171 = some [.i .i64 0, .i .i64 0] ∧ tzc Tryz.prog 34 = some [.i .i64 0, .nil, .nil, .nil, .nil, .nil, .nil, .nil, .i .i64 0] ∧ tzc Tryz.prog 48 = some [.i .i64 0, .i .i64 0, .i .i64 0, .i .i64 0] ∧ tzc Tryz.prog 55 = some [.i .i64 0, .i .i64 0, .i .i64 0, .i .i64 0, .i .i64 0] ∧ tzc Tryz.prog 57 = some [.i .i64 0, .i .i64 0, .i .i64 0, .i .i64 0, .i .i64 0, .i .i64 0, .i .i64 0, .i .i64 0] ∧ tzc Tryz.prog 83 = some [.i .i64 0, .i .i64 0, .i .i64 0] ∧ tzc Tryz.prog 93 = some [.i .i64 0, .i .i64 0, .i .i64 0, .i .i64 0, .i .i64 0] := by and_intros <;> kernel_rfl
def An3 : Ann := { ord := [(14, [0, 1, 2, 3, 4, 5, 6, 7, 8, 9, 10, 12, 13, 11, 14, 15, 16, 17, 18, 19, 20, 21, 22])], jn := [(5, (60, 28, 60)), (9, (88, 65, 88)), (14, (2, 105, 127))] }
def An5 : Ann := {}
def An6 : Ann := { av := [(1, [36]), (2, [37]), (3, [38]), (4, [39]), (5, [40])], sh := [.n, .z 3] }
def An7 : Ann := { sh := [.a [0, 8, 3, 3, 5, 4, 5, 4, 0], .n] }
def An8 : Ann := { jn := [(6, (54, 15, 54))], lp := [(4, ⟨[0, 8, 9, 10], [], [], []⟩)], rt := ⟨[2], [], [], []⟩ }
def An9 : Ann := { lp := [(3, ⟨[3, 6, 7, 8], [], [3], []⟩)] }
def QvX : Ann := { ord := [(1, [0, 1, 2, 3, 4, 5, 6, 7, 8, 9, 10, 11, 12, 13, 14, 15, 16, 17, 18, 19, 20, 21, 22, 23, 24, 25, 26, 27, 28, 29, 30, 31, 32, 33, 34, 35, 36, 37, 38, 39, 40, 41, 42, 44, 45, 43, 46, 47, 48, 49, 50, 51, 52, 53])], jn := [(1, (2, 3, 56))] }
def Qtl : Ann := { lp := [(3, ⟨[1, 3, 8, 9, 10], [.s 1 0, .s 3 1], [3], [.s 3 1]⟩)], sh := [.z 1] }
def Qtq : Ann := { fc := [(2, [(3, 3)])], lp := [(4, ⟨[2, 3, 4, 5], [.s 2 0, .s 3 0, .c 1 1 8, .c 1 2 3, .c 1 4 5, .c 1 5 4, .c 1 6 5, .c 1 7 4, .s 4 3], [2, 3, 4], [.s 2 0, .s 3 0, .c 1 1 8, .c 1 2 3, .c 1 4 5, .c 1 5 4, .c 1 6 5, .c 1 7 4, .s 4 3]⟩)], sh := [.a [0, 8, 3, 3, 5, 4, 5, 4, 0]] }
def Qug : Ann := { lp := [(4, ⟨[0, 1, 5], [], [], []⟩)], rt := ⟨[4], [], [], []⟩ }
def Quu : Ann := { ac := [(10, 0)], jn := [(7, (36, 20, 36))], lp := [(5, ⟨[0, 1, 5, 13, 14, 15], [.s 5 1], [5], [.s 5 1]⟩)], sh := [.z 1] }
def Qwf : Ann := { ot := [(4, .one 1 (.alt (.one 0 (.one 2 (.one 3 (.one 4 (.done))))) (.one 2 (.one 0 (.one 3 (.one 4 (.done)))))))], av := [(1, [36]), (2, [56]), (4, [57])], sh := [.a [0, 8, 3, 3, 5, 4, 5, 4, 0], .n] }
def Qu5 : Ann := {}
def Qv7 : Ann := { ot := [(13, .one 0 (.alt (.one 1 (.one 2 (.one 3 (.done)))) (.one 2 (.one 1 (.one 3 (.done))))))], av := [(1, [36]), (2, [56]), (4, [57]), (6, [56])], sh := [.a [0, 8, 3, 3, 5, 4, 5, 4, 0], .a [0, 8, 3, 3, 5, 4, 5, 4, 0]] }
def QuS : Ann := { jn := [(1, (4, 5, 66))] }
def QrW : Ann := { nr := some [.s 32 0], jn := [(3, (15, 8, 15))], lp := [(3, ⟨[0, 3, 4], [], [0, 3], []⟩)] }
def QwH : Ann := { ak := [0, 1], av := [(1, [57])] }
def Qwr : Ann := { ak := [0], av := [(1, [57])] }
def Qvm : Ann := { nr := some [.r 0, .s 50 3], ak := [0], av := [(1, [97]), (2, [57]), (3, [57]), (5, [37]), (7, [98]), (9, [37])], sh := [.z 3] }
def QsS : Ann := { nr := some [.r 0, .s 23 3], ak := [0], av := [(3, [57]), (5, [57])], lp := [(3, ⟨[0, 3, 4], [.s 0 0, .s 3 3], [0, 3], [.s 0 0, .s 3 3]⟩)], sh := [.z 3] }
def Qvq : Ann := { sh := [.z 3] }
def QuK : Ann := { jn := [(1, (6, 7, 15))] }
def Qw7 : Ann := {}
def QtW : Ann := { jn := [(6, (34, 15, 34))], lp := [(4, ⟨[0, 8, 9, 10], [], [], []⟩)], rt := ⟨[2], [], [], []⟩ }
def QtU : Ann := { jn := [(6, (51, 15, 51))], lp := [(4, ⟨[0, 8, 9, 10], [], [], []⟩)], rt := ⟨[2], [], [], []⟩ }
def QqX : Ann := { jn := [(6, (59, 17, 59)), (11, (82, 68, 82))], lp := [(4, ⟨[0, 10, 11, 12], [], [], []⟩), (9, ⟨[0, 4, 10, 11, 12, 62, 63, 64], [.s 4 0], [0, 10, 11, 12], []⟩)], rt := ⟨[2], [], [], []⟩ }
def QtG : Ann := { jn := [(7, (61, 17, 61)), (13, (83, 73, 83))], lp := [(5, ⟨[0, 3, 10, 11, 12], [], [], []⟩)], rt := ⟨[2], [], [], []⟩ }
def Qud : Ann := { jn := [(6, (58, 15, 58))], lp := [(4, ⟨[0, 8, 9, 10], [], [], []⟩)], rt := ⟨[2], [], [], []⟩ }
def QnR : Ann := { ord := [(7, [0, 1, 2, 3, 4, 5, 6, 7, 8, 9, 10, 11, 12, 13, 14, 15, 18, 19, 20, 21, 16, 17, 22, 23, 24])], jn := [(7, (54, 30, 54)), (13, (73, 63, 73))], lp := [(5, ⟨[1, 3, 23, 24, 25], [.s 1 0, .s 3 1], [1, 3], [.s 1 0, .s 3 1]⟩), (11, ⟨[1, 3, 57, 58, 59], [.s 1 0, .s 3 1], [1, 3], [.s 1 0, .s 3 1]⟩), (17, ⟨[1, 75, 76, 77], [.s 1 0, .s 75 1], [], []⟩)], rt := ⟨[2], [], [], []⟩ }
def QsO : Ann := { ord := [(7, [0, 1, 2, 3, 4, 5, 6, 7, 8, 9, 10, 11, 12, 13, 14, 15, 16, 17, 18, 19, 20, 21, 22, 24, 26, 27, 23, 25, 28, 29, 30])], jn := [(7, (56, 26, 56))], lp := [(4, ⟨[1, 14, 15, 16], [.s 1 0], [], []⟩)], rt := ⟨[2], [], [], []⟩ }
def QnF : Ann := { lp := [(3, ⟨[1, 3, 13, 14, 15], [.s 1 0], [1, 3], [.s 1 0]⟩), (8, ⟨[1, 3, 25, 26, 27], [.s 1 0], [1, 3], [.s 1 0]⟩), (13, ⟨[1, 3, 37, 38, 39], [.s 1 0], [1, 3], [.s 1 0]⟩), (18, ⟨[3, 49, 50, 51], [], [3], []⟩)] }
def QvY : Ann := {}
def Qw1 : Ann := { av := [(1, [36]), (2, [56])], sh := [.a [0, 8, 3, 3, 5, 4, 5, 4, 0]] }
def QsC : Ann := { lp := [(2, ⟨[0, 1, 5], [], [], []⟩)], rt := ⟨[4], [], [], []⟩ }
def Qw5 : Ann := { nr := some [.r 0, .g 62 1 8, .g 62 2 3, .g 62 3 3, .g 62 4 5, .g 62 5 4, .g 62 6 5, .g 62 7 4], ak := [0], av := [(1, [40, 57]), (2, [57]), (3, [57]), (5, [37]), (7, [111]), (9, [39]), (11, [112]), (13, [113]), (15, [114]), (17, [37]), (19, [115])], sh := [.a [0, 8, 3, 3, 5, 4, 5, 4, 0]] }
def QvA : Ann := { ak := [0], av := [(4, [116]), (5, [116]), (6, [116]), (7, [116])] }
def QwI : Ann := {}
def QuQ : Ann := { ord := [(1, [0, 1, 2, 3, 4, 6, 7, 9, 10, 11, 13, 14, 15, 17, 18, 19, 21, 22, 23, 25, 26, 27, 29, 30, 5, 8, 12, 16, 20, 24, 28, 31, 32])], eb := [(1, [5, 12, 16, 20, 24, 28])], sh := [.a [0, 8, 3, 3, 5, 4, 5, 4, 0]] }
def Qr9 : Ann := { lp := [(4, ⟨[0, 1, 12, 13], [], [], []⟩)], rt := ⟨[4], [], [], []⟩ }
def QwE : Ann := {}
def Qsc : Ann := { lp := [(4, ⟨[0, 1, 12, 13], [], [], []⟩)], rt := ⟨[4], [], [], []⟩ }
def Qsk : Ann := { lp := [(4, ⟨[0, 1, 12, 13], [], [], []⟩)], rt := ⟨[4], [], [], []⟩ }
def QrT : Ann := { lp := [(4, ⟨[0, 1, 12, 13], [], [], []⟩)], rt := ⟨[4], [], [], []⟩ }
def Quy : Ann := { lp := [(4, ⟨[0, 1, 12, 13], [], [], []⟩)], rt := ⟨[4], [], [], []⟩ }
def QrN : Ann := { lp := [(4, ⟨[0, 1, 12, 13], [], [], []⟩)], rt := ⟨[4], [], [], []⟩ }
def QvM : Ann := { ak := [0], av := [(1, [57, 128])] }
def Qwp : Ann := {}
def Qvn : Ann := { nr := some [.r 0, .s 36 2], ak := [0], av := [(1, [129]), (4, [57]), (5, [57]), (7, [37]), (9, [37])], sh := [.z 2] }
def Qwk : Ann := { sh := [.z 2] }
def QwB : Ann := { jn := [(1, (5, 6, 19)), (3, (19, 20, 30))] }
def Qq8 : Ann := { nr := some [.r 0, .s 40 3], ak := [0], av := [(3, [57]), (5, [57]), (6, [57]), (9, [57, 128])], lp := [(3, ⟨[0, 3, 4], [.s 0 0, .s 3 3], [0, 3], [.s 0 0, .s 3 3]⟩), (7, ⟨[0, 3, 5], [.s 0 0, .s 3 3], [0, 3], [.s 0 0, .s 3 3]⟩)], sh := [.z 3] }
def Qu6 : Ann := { ak := [0], av := [(1, [37])] }
def Qv2 : Ann := { jn := [(1, (2, 3, 21))] }
def QnA : Ann := { jn := [(6, (39, 15, 39))], lp := [(4, ⟨[0, 8, 9, 10], [], [], []⟩)], rt := ⟨[2], [], [], []⟩ }
def Qo4 : Ann := {}
def Qpv : Ann := {}
def Qo5 : Ann := {}
def Qpa : Ann := { jn := [(1, (2, 3, 26))] }
def Qp8 : Ann := {}
def QmS : Ann := { lp := [(2, ⟨[0, 1, 7, 8], [], [], []⟩)], rt := ⟨[4], [], [], []⟩ }
def Qo9 : Ann := {}
def Qp2 : Ann := { jn := [(2, (20, 11, 20))], sh := [.a [0, 8, 3, 3, 5, 4, 5, 4, 0], .n] }
def Qpu : Ann := { nr := some [.r 0, .s 52 8], ak := [0], av := [(1, [183]), (4, [57]), (5, [57]), (7, [184]), (9, [37]), (11, [98]), (13, [37])], sh := [.z 8] }
def QpF : Ann := { nr := some [.r 0, .s 53 5], ak := [0], av := [(1, [185]), (4, [57]), (5, [57]), (7, [37]), (9, [98]), (11, [37]), (13, [37])], sh := [.z 5] }
def Qqs : Ann := { nr := some [.r 0, .s 68 5], ak := [0], av := [(1, [186]), (4, [57]), (5, [57]), (9, [37]), (11, [98]), (13, [37])], sh := [.z 5] }
def Qnl : Ann := { nr := some [.r 0, .s 68 4], ak := [0], av := [(3, [57]), (6, [57]), (7, [57]), (9, [57]), (10, [57]), (12, [37]), (14, [37]), (16, [98])], lp := [(4, ⟨[0, 3, 4, 5], [.s 0 0, .s 3 4], [0, 3], [.s 0 0, .s 3 4]⟩)], sh := [.z 4] }
def Qnq : Ann := { nr := some [.r 0, .s 56 3], ak := [0], av := [(3, [57]), (5, [188]), (7, [57]), (8, [57]), (10, [37]), (12, [70]), (14, [37])], lp := [(3, ⟨[0, 3, 4], [.s 0 0, .s 3 3], [0, 3], [.s 0 0, .s 3 3]⟩)], sh := [.z 3] }
def Qo3 : Ann := { ot := [(2, .one 0 (.one 5 (.alt (.one 1 (.alt (.one 2 (.alt (.one 3 (.one 4 (.one 6 (.one 7 (.one 8 (.one 9 (.one 10 (.one 11 (.one 12 (.done)))))))))) (.one 6 (.one 3 (.one 4 (.one 7 (.one 8 (.one 9 (.one 10 (.one 11 (.one 12 (.done)))))))))))) (.one 6 (.one 2 (.one 3 (.one 4 (.one 7 (.one 8 (.one 9 (.one 10 (.one 11 (.one 12 (.done))))))))))))) (.one 6 (.alt (.one 1 (.one 2 (.one 3 (.one 4 (.one 7 (.one 8 (.one 9 (.one 10 (.one 11 (.one 12 (.done))))))))))) (.one 7 (.alt (.one 1 (.one 2 (.one 3 (.one 4 (.one 8 (.one 9 (.one 10 (.one 11 (.one 12 (.done)))))))))) (.one 8 (.one 9 (.one 1 (.one 2 (.one 3 (.one 4 (.one 10 (.one 11 (.one 12 (.done))))))))))))))))), (3, .one 0 (.one 4 (.alt (.one 1 (.alt (.one 2 (.alt (.one 3 (.one 5 (.one 6 (.one 7 (.one 8 (.one 9 (.done))))))) (.one 5 (.one 3 (.one 6 (.one 7 (.one 8 (.one 9 (.done))))))))) (.one 5 (.one 2 (.one 3 (.one 6 (.one 7 (.one 8 (.one 9 (.done)))))))))) (.one 5 (.alt (.one 1 (.one 2 (.one 3 (.one 6 (.one 7 (.one 8 (.one 9 (.done)))))))) (.one 6 (.alt (.one 1 (.one 2 (.one 3 (.one 7 (.one 8 (.one 9 (.done))))))) (.one 7 (.alt (.one 1 (.one 2 (.one 3 (.one 8 (.one 9 (.done)))))) (.one 8 (.one 1 (.one 2 (.one 3 (.one 9 (.done))))))))))))))), (4, .one 0 (.one 1 (.one 5 (.alt (.one 2 (.alt (.one 3 (.alt (.one 4 (.one 6 (.one 7 (.one 8 (.one 9 (.one 10 (.one 11 (.one 12 (.one 13 (.one 14 (.done))))))))))) (.one 6 (.one 4 (.one 7 (.one 8 (.one 9 (.one 10 (.one 11 (.one 12 (.one 13 (.one 14 (.done))))))))))))) (.one 6 (.one 3 (.one 4 (.one 7 (.one 8 (.one 9 (.one 10 (.one 11 (.one 12 (.one 13 (.one 14 (.done)))))))))))))) (.one 6 (.alt (.one 2 (.one 3 (.one 4 (.one 7 (.one 8 (.one 9 (.one 10 (.one 11 (.one 12 (.one 13 (.one 14 (.done)))))))))))) (.one 7 (.alt (.one 2 (.one 3 (.one 4 (.one 8 (.one 9 (.one 10 (.one 11 (.one 12 (.one 13 (.one 14 (.done))))))))))) (.one 8 (.one 2 (.one 3 (.one 4 (.one 9 (.one 10 (.one 11 (.one 12 (.one 13 (.one 14 (.done)))))))))))))))))))], ak := [0] }
def QmB : Ann := { lp := [(2, ⟨[0, 1, 7, 8], [], [], []⟩)], rt := ⟨[4], [], [], []⟩ }
def QpH : Ann := {}
def Qmo : Ann := { ord := [(5, [0, 1, 2, 3, 4, 5, 6, 7, 8, 9, 10, 11, 13, 14, 15, 16, 17, 12, 18, 19, 20, 21])], eb := [(5, [18])], lp := [(3, ⟨[0, 3, 4], [.s 3 3], [3], [.s 3 3]⟩)], sh := [.z 3] }
def Qnx : Ann := { lp := [(4, ⟨[1, 2, 15, 16, 17], [], [], []⟩)], rt := ⟨[6], [], [], []⟩ }
def Qqp : Ann := { jn := [(1, (4, 5, 24))] }
def Qnw : Ann := { lp := [(4, ⟨[0, 1, 12, 13], [], [], []⟩)], rt := ⟨[4], [], [], []⟩ }
def QpD : Ann := { ak := [0], av := [(1, [57])] }
def Qnv : Ann := { nr := some [.r 0, .s 24 2], ak := [0], av := [(2, [57]), (5, [57])], lp := [(3, ⟨[0, 3, 4], [.s 0 0, .s 3 2], [0, 3], [.s 0 0, .s 3 2]⟩)], sh := [.z 2] }
def Qpw : Ann := {}
def Qqt : Ann := { sh := [.z 2] }
def Qqg : Ann := { jn := [(1, (2, 3, 26))] }
def Qmz : Ann := { lp := [(2, ⟨[0, 1, 5], [], [], []⟩)], rt := ⟨[4], [], [], []⟩ }
def Qp0 : Ann := { sh := [.z 2] }
def Qpi : Ann := {}
def Qnn : Ann := { jn := [(3, (34, 16, 34))], lp := [(6, ⟨[3, 6, 7, 8], [.s 3 0, .s 6 3], [6], [.s 6 3]⟩)], sh := [.z 3, .n] }
def Qm9 : Ann := { lp := [(3, ⟨[3, 6, 7, 8], [], [3], []⟩)] }
def QnB : Ann := { lp := [(2, ⟨[0, 1, 7, 8], [], [], []⟩)], rt := ⟨[4], [], [], []⟩ }
def Qns : Ann := { lp := [(2, ⟨[0, 1, 7, 8], [], [], []⟩)], rt := ⟨[4], [], [], []⟩ }
def Qqh : Ann := {}
def Qo8 : Ann := { jn := [(1, (48, 3, 48)), (3, (86, 49, 86)), (5, (2, 87, 93))] }
def QmT : Ann := { lp := [(3, ⟨[0, 3, 4], [], [3], []⟩)] }
def Qm0 : Ann := { nr := some [.r 0, .s 20 8], ak := [0], av := [(3, [57]), (5, [68])], lp := [(3, ⟨[0, 3, 4], [.s 0 0, .s 3 8], [0, 3], [.s 0 0, .s 3 8]⟩)], sh := [.z 8] }
def QpU : Ann := { ak := [0], av := [(1, [57, 128]), (2, [57]), (4, [37]), (6, [37]), (8, [37]), (10, [98]), (12, [37])] }
def QlI : Ann := { nr := some [.r 0, .s 39 5], ak := [0], av := [(3, [57]), (5, [57]), (6, [57])], lp := [(3, ⟨[0, 3, 4], [.s 0 0, .s 3 5], [0, 3], [.s 0 0, .s 3 5]⟩)], sh := [.z 5] }
def Qno : Ann := { nr := some [.r 0, .s 26 5], ak := [0], av := [(3, [57]), (6, [243]), (7, [57])], lp := [(4, ⟨[0, 3, 4, 5], [.s 0 0, .s 3 5], [0, 3], [.s 0 0, .s 3 5]⟩)], sh := [.z 5] }
def QpA : Ann := { ot := [(1, .one 1 (.alt (.one 0 (.alt (.one 2 (.one 3 (.one 4 (.one 5 (.one 6 (.done)))))) (.one 3 (.alt (.one 2 (.one 4 (.one 5 (.one 6 (.done))))) (.one 4 (.one 2 (.one 5 (.one 6 (.done))))))))) (.one 3 (.alt (.one 0 (.alt (.one 2 (.one 4 (.one 5 (.one 6 (.done))))) (.one 4 (.one 2 (.one 5 (.one 6 (.done))))))) (.one 4 (.one 0 (.one 2 (.one 5 (.one 6 (.done))))))))))], sh := [.z 4, .n] }
def Qp9 : Ann := { nr := some [.r 0, .g 20 1 2], ak := [0], av := [(1, [129]), (3, [57]), (4, [57])], sh := [.a [0, 2, 0]] }
def QlC : Ann := { ot := [(9, .one 1 (.one 2 (.one 3 (.one 8 (.one 9 (.one 10 (.alt (.one 0 (.alt (.one 4 (.one 5 (.one 6 (.one 7 (.one 11 (.one 12 (.done))))))) (.one 5 (.alt (.one 4 (.one 6 (.one 7 (.one 11 (.one 12 (.done)))))) (.one 6 (.one 4 (.one 7 (.one 11 (.one 12 (.done)))))))))) (.one 5 (.alt (.one 0 (.alt (.one 4 (.one 6 (.one 7 (.one 11 (.one 12 (.done)))))) (.one 6 (.one 4 (.one 7 (.one 11 (.one 12 (.done)))))))) (.one 6 (.one 0 (.one 4 (.one 7 (.one 11 (.one 12 (.done))))))))))))))))], jn := [(6, (7, 19, 40)), (10, (67, 62, 67))], lp := [(4, ⟨[0, 3, 6, 7, 8], [.s 3 0], [0, 3, 6, 7], [.s 3 0]⟩)], sh := [.z 5, .n] }
def Qnh : Ann := { jn := [(4, (22, 12, 22))], lp := [(2, ⟨[0, 1, 5], [], [], []⟩)], rt := ⟨[4], [], [], []⟩ }
def Qo1 : Ann := { jn := [(1, (6, 7, 15))] }
def Qms : Ann := { lp := [(2, ⟨[0, 1, 5], [], [], []⟩)], rt := ⟨[4], [], [], []⟩ }
def QpG : Ann := { jn := [(3, (24, 18, 24)), (6, (11, 31, 49)), (8, (60, 54, 60))], sh := [.z 5, .n] }
def Qp1 : Ann := { jn := [(1, (5, 6, 19)), (3, (19, 20, 30))] }
def Qmq : Ann := { ot := [(7, .one 1 (.one 2 (.one 3 (.one 8 (.alt (.one 0 (.alt (.one 4 (.one 5 (.one 6 (.one 7 (.one 9 (.one 10 (.done))))))) (.one 5 (.alt (.one 4 (.one 6 (.one 7 (.one 9 (.one 10 (.done)))))) (.one 6 (.one 4 (.one 7 (.one 9 (.one 10 (.done)))))))))) (.one 5 (.alt (.one 0 (.alt (.one 4 (.one 6 (.one 7 (.one 9 (.one 10 (.done)))))) (.one 6 (.one 4 (.one 7 (.one 9 (.one 10 (.done)))))))) (.one 6 (.one 0 (.one 4 (.one 7 (.one 9 (.one 10 (.done))))))))))))))], jn := [(2, (22, 9, 22)), (5, (39, 28, 39))], lp := [(2, ⟨[0, 3, 6], [.s 3 0], [0, 3, 6], [.s 3 0]⟩)], sh := [.z 2, .n] }
def QlF : Ann := { lp := [(2, ⟨[0, 1, 7, 8], [], [], []⟩)], rt := ⟨[4], [], [], []⟩ }
def Qps : Ann := {}
def QmC : Ann := { lp := [(2, ⟨[0, 1, 5], [], [], []⟩)], rt := ⟨[4], [], [], []⟩ }
def Qni : Ann := { lp := [(3, ⟨[0, 3, 4], [], [3], []⟩)] }
def Qmt : Ann := { jn := [(5, (44, 13, 44))], lp := [(3, ⟨[0, 1, 5, 6], [], [0, 5], []⟩)] }
def Qki : Ann := { jn := [(4, (53, 11, 53)), (9, (77, 59, 77))], lp := [(2, ⟨[0, 3], [], [0], []⟩), (7, ⟨[0, 3, 4], [], [0, 3], []⟩)], rt := ⟨[2], [], [], []⟩ }
def Qpz : Ann := { jn := [(1, (2, 3, 26))] }
def Qqj : Ann := {}
def QmL : Ann := { jn := [(4, (35, 10, 35))], lp := [(2, ⟨[0, 3], [], [0], []⟩)], rt := ⟨[2], [], [], []⟩ }
def Qmi : Ann := { jn := [(4, (61, 10, 61))], lp := [(2, ⟨[0, 3], [], [0], []⟩)], rt := ⟨[2], [], [], []⟩ }
def QjX : Ann := { jn := [(5, (58, 16, 58)), (10, (84, 64, 84))], lp := [(2, ⟨[0, 3], [], [0], []⟩), (8, ⟨[0, 3, 4, 5], [.s 4 0], [0, 3], []⟩)], rt := ⟨[2], [], [], []⟩ }
def QlV : Ann := { jn := [(3, (15, 7, 15)), (7, (67, 25, 67)), (10, (96, 73, 96))], lp := [(3, ⟨[0, 3, 4], [], [0], []⟩)], rt := ⟨[2], [], [], []⟩ }
def Ql5 : Ann := { jn := [(5, (58, 15, 58))], lp := [(2, ⟨[0, 3], [], [0], []⟩)], rt := ⟨[2], [], [], []⟩ }
def Qiz : Ann := { ord := [(13, [0, 1, 2, 3, 4, 5, 6, 7, 8, 9, 10, 11, 14, 15, 12, 13, 16, 17, 18, 19, 20, 21, 22, 23, 24, 25, 26, 27, 28, 29])], jn := [(13, (77, 48, 77)), (18, (103, 85, 103))], lp := [(5, ⟨[1, 3, 4], [.s 1 0, .s 3 1], [1, 3], [.s 1 0, .s 3 1]⟩), (10, ⟨[1, 3, 5], [.s 1 0, .s 3 1], [1], [.s 1 0]⟩), (16, ⟨[1, 7], [.s 1 0], [], []⟩)], rt := ⟨[2], [], [], []⟩ }
def QmI : Ann := { ord := [(8, [0, 1, 2, 3, 4, 5, 6, 7, 8, 9, 10, 11, 12, 13, 14, 15, 16, 17, 18, 19, 20, 21, 22, 23, 24, 25, 26, 27, 28, 29, 30, 32, 33, 34, 35, 36, 38, 31, 37, 39, 40, 41, 42, 43, 44, 45, 46, 47])], jn := [(8, (77, 30, 77))], lp := [(4, ⟨[1, 3], [.s 1 0], [], []⟩)], rt := ⟨[2], [], [], []⟩ }
def Qpc : Ann := { ot := [(5, .one 1 (.alt (.one 0 (.alt (.one 2 (.one 3 (.one 4 (.one 5 (.one 6 (.done)))))) (.one 3 (.alt (.one 2 (.one 4 (.one 5 (.one 6 (.done))))) (.one 4 (.one 2 (.one 5 (.one 6 (.done))))))))) (.one 3 (.alt (.one 0 (.alt (.one 2 (.one 4 (.one 5 (.one 6 (.done))))) (.one 4 (.one 2 (.one 5 (.one 6 (.done))))))) (.one 4 (.one 0 (.one 2 (.one 5 (.one 6 (.done))))))))))], sh := [.z 5, .n] }
def Qpl : Ann := { ak := [0], av := [(1, [37, 57])] }
def Qqd : Ann := { jn := [(1, (2, 3, 26))] }
def Ql3 : Ann := { jn := [(4, (43, 10, 43))], lp := [(2, ⟨[0, 3], [], [0], []⟩)], rt := ⟨[2], [], [], []⟩ }
def Qp4 : Ann := {}
def QpP : Ann := {}
def Qqr : Ann := {}
def Qp5 : Ann := { jn := [(1, (2, 3, 21))] }
def Qo2 : Ann := {}
def Qmk : Ann := { lp := [(3, ⟨[0, 1, 2, 7, 8], [], [7], []⟩)] }
def Qmd : Ann := { jn := [(3, (16, 9, 16)), (6, (42, 28, 42))], lp := [(3, ⟨[0, 1, 5, 6], [.s 5 1], [5], [.s 5 1]⟩)], sh := [.z 1] }
def QmE : Ann := { lp := [(2, ⟨[0, 1, 5], [], [], []⟩)], rt := ⟨[4], [], [], []⟩ }
def Qnb : Ann := { ot := [(6, .one 1 (.one 2 (.one 3 (.one 5 (.one 8 (.one 9 (.one 10 (.alt (.one 0 (.alt (.one 4 (.one 6 (.one 7 (.one 11 (.one 12 (.done)))))) (.one 6 (.one 4 (.one 7 (.one 11 (.one 12 (.done)))))))) (.one 6 (.one 0 (.one 4 (.one 7 (.one 11 (.one 12 (.done)))))))))))))))], jn := [(2, (17, 6, 17)), (4, (31, 20, 31))], lp := [(2, ⟨[0, 1, 5], [], [0, 1, 5], []⟩)], sh := [.z 1] }
noncomputable def T : Tld := { P := Tryz.prog, ann := [(3, An3), (5, An5), (6, An6), (7, An7), (8, An8), (9, An9), (10, QvX), (11, Qtl), (12, Qtq), (13, Qug), (14, Quu), (15, Qwf), (16, Qu5), (17, Qv7), (18, QuS), (36, QrW), (37, QwH), (38, Qwr), (39, Qvm), (40, QsS), (41, Qvq), (42, QuK), (43, Qw7), (44, QtW), (45, QtU), (46, QqX), (47, QtG), (48, Qud), (49, QnR), (50, QsO), (51, QnF), (52, QvY), (53, Qw1), (54, QsC), (56, Qw5), (57, QvA), (58, QwI), (59, QuQ), (60, Qr9), (61, QwE), (62, Qsc), (63, Qsk), (64, QrT), (65, Quy), (66, QrN), (68, QvM), (69, Qwp), (70, Qvn), (81, Qwk), (83, QwB), (97, Qq8), (98, Qu6), (99, Qv2), (100, QnA), (101, Qo4), (102, Qpv), (103, Qo5), (104, Qpa), (105, Qp8), (106, QmS), (107, Qo9), (110, Qp2), (111, Qpu), (112, QpF), (113, Qqs), (114, Qnl), (115, Qnq), (116, Qo3), (117, QmB), (118, QpH), (119, Qmo), (120, Qnx), (121, Qqp), (122, Qnw), (128, QpD), (129, Qnv), (137, Qpw), (138, Qqt), (141, Qqg), (150, Qmz), (152, Qp0), (157, Qpi), (165, Qnn), (166, Qm9), (167, QnB), (168, Qns), (169, Qqh), (181, Qo8), (182, QmT), (183, Qm0), (184, QpU), (185, QlI), (186, Qno), (187, QpA), (188, Qp9), (190, QlC), (192, Qnh), (193, Qo1), (195, Qms), (197, QpG), (201, Qp1), (202, Qmq), (205, QlF), (206, Qps), (213, QmC), (216, Qni), (225, Qmt), (226, Qki), (227, Qpz), (228, Qqj), (235, QmL), (236, Qmi), (237, QjX), (238, QlV), (239, Ql5), (240, Qiz), (241, QmI), (242, Qpc), (243, Qpl), (247, Qqd), (248, Ql3), (249, Qp4), (254, QpP), (258, Qqr), (260, Qp5), (261, Qo2), (262, Qmk), (263, Qmd), (264, QmE), (270, Qnb)], xt := fun _ _ => none, st := fun g => Nat.beq g 55, qt := fun _ => false, pz := [(10, [.a [0, 8, 3, 3, 5, 4, 5, 4, 0]]), (59, [.a [0, 8, 3, 3, 5, 4, 5, 4, 0]])], vt := fun _ => false, mt := fun _ _ _ => none }
theorem TP : T.P = Tryz.prog := _root_.id rfl
theorem TZ : T.pz = [(10, [.a [0, 8, 3, 3, 5, 4, 5, 4, 0]]), (59, [.a [0, 8, 3, 3, 5, 4, 5, 4, 0]])] := _root_.id rfl
theorem QJG : decide ((0 : Int) ≤ 33) = true := _root_.id rfl
theorem QI6 : decide ((0 : Int) ≤ 47) = true := _root_.id rfl
def eY := aI evT <| aI QED <| aI @QJF <| aI @Qi9 <| @XX
def eZ := aI evB <| aI evT <| aI tys <| aI QED <| aI TP <| aI TZ <| aI (@QGu T) <| aI (@QHD T) <| aI (@QC5 T) <| aI QJG <| aI QI6 <| aI @XX <| @QE0 T
theorem QKX : cI = Vj := _root_.id rfl
theorem QBR (xs : List Int) : QaF (xs.map Vj) = some xs := QoE xs
theorem QGD : T.st 55 = true := by kernel_rfl
theorem QFO : T.st 36 = false := by kernel_rfl
theorem QEo : T.qt 36 = false := by kernel_rfl
theorem QFo : T.wt 36 = true := by kernel_rfl
theorem QE9 : T.vt 36 = false := by kernel_rfl
theorem QHX : T.st 37 = false := by kernel_rfl
theorem QDF : T.qt 37 = false := by kernel_rfl
theorem QGl : T.wt 37 = true := by kernel_rfl
theorem QDX : T.vt 37 = false := by kernel_rfl
theorem QGp : T.st 38 = false := by kernel_rfl
theorem QHq : T.qt 38 = false := by kernel_rfl
theorem QIe : T.wt 38 = true := by kernel_rfl
theorem QDC : T.vt 38 = false := by kernel_rfl
theorem QD1 : T.st 39 = false := by kernel_rfl
theorem QHH : T.qt 39 = false := by kernel_rfl
theorem QGR : T.wt 39 = true := by kernel_rfl
theorem QC0 : T.vt 39 = false := by kernel_rfl
theorem QC1 : T.st 40 = false := by kernel_rfl
theorem QDh : T.qt 40 = false := by kernel_rfl
theorem QG1 : T.wt 40 = true := by kernel_rfl
theorem QGN : T.vt 40 = false := by kernel_rfl
theorem QC2 : T.st 56 = false := by kernel_rfl
theorem QCq : T.qt 56 = false := by kernel_rfl
theorem QIi : T.wt 56 = true := by kernel_rfl
theorem QD9 : T.vt 56 = false := by kernel_rfl
theorem QEU : T.st 57 = false := by kernel_rfl
theorem QCi : T.qt 57 = false := by kernel_rfl
theorem QDN : T.wt 57 = true := by kernel_rfl
theorem QHf : T.vt 57 = false := by kernel_rfl
theorem QFP : T.st 68 = false := by kernel_rfl
theorem QFI : T.qt 68 = false := by kernel_rfl
theorem QCV : T.wt 68 = true := by kernel_rfl
theorem QIj : T.vt 68 = false := by kernel_rfl
theorem QGC : T.st 70 = false := by kernel_rfl
theorem QHE : T.qt 70 = false := by kernel_rfl
theorem QF0 : T.wt 70 = true := by kernel_rfl
theorem QDf : T.vt 70 = false := by kernel_rfl
theorem QDI : T.st 97 = false := by kernel_rfl
theorem QEt : T.qt 97 = false := by kernel_rfl
theorem QGW : T.wt 97 = true := by kernel_rfl
theorem QFH : T.vt 97 = false := by kernel_rfl
theorem QF1 : T.st 98 = false := by kernel_rfl
theorem QEq : T.qt 98 = false := by kernel_rfl
theorem QIn : T.wt 98 = true := by kernel_rfl
theorem QCS : T.vt 98 = false := by kernel_rfl
theorem QAU : T.st 111 = false := by kernel_rfl
theorem Qy6 : T.qt 111 = false := by kernel_rfl
theorem QAG : T.wt 111 = true := by kernel_rfl
theorem QAS : T.vt 111 = false := by kernel_rfl
theorem QBa : T.st 112 = false := by kernel_rfl
theorem QBW : T.qt 112 = false := by kernel_rfl
theorem QAj : T.wt 112 = true := by kernel_rfl
theorem QAH : T.vt 112 = false := by kernel_rfl
theorem QyR : T.st 113 = false := by kernel_rfl
theorem QzT : T.qt 113 = false := by kernel_rfl
theorem QyY : T.wt 113 = true := by kernel_rfl
theorem QBS : T.vt 113 = false := by kernel_rfl
theorem QBp : T.st 114 = false := by kernel_rfl
theorem QBI : T.qt 114 = false := by kernel_rfl
theorem QAi : T.wt 114 = true := by kernel_rfl
theorem QzB : T.vt 114 = false := by kernel_rfl
theorem Qz9 : T.st 115 = false := by kernel_rfl
theorem QyA : T.qt 115 = false := by kernel_rfl
theorem QAW : T.wt 115 = true := by kernel_rfl
theorem QAL : T.vt 115 = false := by kernel_rfl
theorem QA4 : T.st 116 = false := by kernel_rfl
theorem QyS : T.qt 116 = false := by kernel_rfl
theorem QAE : T.wt 116 = true := by kernel_rfl
theorem Qy4 : T.vt 116 = false := by kernel_rfl
theorem Qzf : T.st 128 = false := by kernel_rfl
theorem Qz4 : T.qt 128 = false := by kernel_rfl
theorem QA1 : T.wt 128 = true := by kernel_rfl
theorem QBY : T.vt 128 = false := by kernel_rfl
theorem Qz6 : T.st 129 = false := by kernel_rfl
theorem Qzz : T.qt 129 = false := by kernel_rfl
theorem QAD : T.wt 129 = true := by kernel_rfl
theorem QAC : T.vt 129 = false := by kernel_rfl
theorem Qz2 : T.st 183 = false := by kernel_rfl
theorem QBl : T.qt 183 = false := by kernel_rfl
theorem QyU : T.wt 183 = true := by kernel_rfl
theorem QBn : T.vt 183 = false := by kernel_rfl
theorem QzZ : T.st 184 = false := by kernel_rfl
theorem QBZ : T.qt 184 = false := by kernel_rfl
theorem QBB : T.wt 184 = true := by kernel_rfl
theorem QAF : T.vt 184 = false := by kernel_rfl
theorem QyK : T.st 185 = false := by kernel_rfl
theorem QyI : T.qt 185 = false := by kernel_rfl
theorem QBU : T.wt 185 = true := by kernel_rfl
theorem QBA : T.vt 185 = false := by kernel_rfl
theorem Qy3 : T.st 186 = false := by kernel_rfl
theorem QzG : T.qt 186 = false := by kernel_rfl
theorem QzK : T.wt 186 = true := by kernel_rfl
theorem Qzn : T.vt 186 = false := by kernel_rfl
theorem Qz5 : T.st 188 = false := by kernel_rfl
theorem QBx : T.qt 188 = false := by kernel_rfl
theorem Qzm : T.wt 188 = true := by kernel_rfl
theorem Qzo : T.vt 188 = false := by kernel_rfl
theorem Qy2 : T.st 243 = false := by kernel_rfl
theorem QB2 : T.qt 243 = false := by kernel_rfl
theorem QyB : T.wt 243 = true := by kernel_rfl
theorem QzO : T.vt 243 = false := by kernel_rfl
def srt := aI @QKX <| aI @QBR <| aI @QDV <| aI @QDb <| aI @QID <| aI @QCL <| aI @QGD <| aI @QFO <| aI @QEo <| aI @QFo <| aI @QE9 <| aI @QHX <| aI @QDF <| aI @QGl <| aI @QDX <| aI @QGp <| aI @QHq <| aI @QIe <| aI @QDC <| aI @QD1 <| aI @QHH <| aI @QGR <| aI @QC0 <| aI @QC1 <| aI @QDh <| aI @QG1 <| aI @QGN <| aI @QC2 <| aI @QCq <| aI @QIi <| aI @QD9 <| aI @QEU <| aI @QCi <| aI @QDN <| aI @QHf <| aI @QFP <| aI @QFI <| aI @QCV <| aI @QIj <| aI @QGC <| aI @QHE <| aI @QF0 <| aI @QDf <| aI @QDI <| aI @QEt <| aI @QGW <| aI @QFH <| aI @QF1 <| aI @QEq <| aI @QIn <| aI @QCS <| aI @QAU <| aI @Qy6 <| aI @QAG <| aI @QAS <| aI @QBa <| aI @QBW <| aI @QAj <| aI @QAH <| aI @QyR <| aI @QzT <| aI @QyY <| aI @QBS <| aI @QBp <| aI @QBI <| aI @QAi <| aI @QzB <| aI @Qz9 <| aI @QyA <| aI @QAW <| aI @QAL <| aI @QA4 <| aI @QyS <| aI @QAE <| aI @Qy4 <| aI @Qzf <| aI @Qz4 <| aI @QA1 <| aI @QBY <| aI @Qz6 <| aI @Qzz <| aI @QAD <| aI @QAC <| aI @Qz2 <| aI @QBl <| aI @QyU <| aI @QBn <| aI @QzZ <| aI @QBZ <| aI @QBB <| aI @QAF <| aI @QyK <| aI @QyI <| aI @QBU <| aI @QBA <| aI @Qy3 <| aI @QzG <| aI @QzK <| aI @Qzn <| aI @Qz5 <| aI @QBx <| aI @Qzm <| aI @Qzo <| aI @Qy2 <| aI @QB2 <| aI @QyB @QzO
theorem Aa3 : T.at 3 = some An3 := by kernel_rfl
theorem Aa5 : T.at 5 = some An5 := by kernel_rfl
theorem Aa6 : T.at 6 = some An6 := by kernel_rfl
theorem Aa7 : T.at 7 = some An7 := by kernel_rfl
theorem Aa8 : T.at 8 = some An8 := by kernel_rfl
theorem Aa9 : T.at 9 = some An9 := by kernel_rfl
theorem QLZ : T.at 10 = some QvX := by kernel_rfl
theorem QGH : T.at 11 = some Qtl := by kernel_rfl
theorem QFk : T.at 12 = some Qtq := by kernel_rfl
theorem QD4 : T.at 13 = some Qug := by kernel_rfl
theorem QDw : T.at 14 = some Quu := by kernel_rfl
theorem QKU : T.at 15 = some Qwf := by kernel_rfl
theorem QI7 : T.at 16 = some Qu5 := by kernel_rfl
theorem QM2 : T.at 17 = some Qv7 := by kernel_rfl
theorem QKf : T.at 18 = some QuS := by kernel_rfl
theorem QGy : T.at 36 = some QrW := by kernel_rfl
theorem QJc : T.at 37 = some QwH := by kernel_rfl
theorem QMQ : T.at 38 = some Qwr := by kernel_rfl
theorem QLd : T.at 39 = some Qvm := by kernel_rfl
theorem QD6 : T.at 40 = some QsS := by kernel_rfl
theorem QNj : T.at 41 = some Qvq := by kernel_rfl
theorem QM6 : T.at 42 = some QuK := by kernel_rfl
theorem QMe : T.at 43 = some Qw7 := by kernel_rfl
theorem QEf : T.at 44 = some QtW := by kernel_rfl
theorem QGT : T.at 45 = some QtU := by kernel_rfl
theorem QBr : T.at 46 = some QqX := by kernel_rfl
theorem QHv : T.at 47 = some QtG := by kernel_rfl
theorem QHI : T.at 48 = some Qud := by kernel_rfl
theorem Qxe : T.at 49 = some QnR := by kernel_rfl
theorem QCz : T.at 50 = some QsO := by kernel_rfl
theorem Quh : T.at 51 = some QnF := by kernel_rfl
theorem QIT : T.at 52 = some QvY := by kernel_rfl
theorem QKd : T.at 53 = some Qw1 := by kernel_rfl
theorem QFg : T.at 54 = some QsC := by kernel_rfl
theorem QMC : T.at 56 = some Qw5 := by kernel_rfl
theorem QM8 : T.at 57 = some QvA := by kernel_rfl
theorem QKh : T.at 58 = some QwI := by kernel_rfl
theorem QJz : T.at 59 = some QuQ := by kernel_rfl
theorem QGs : T.at 60 = some Qr9 := by kernel_rfl
theorem QNg : T.at 61 = some QwE := by kernel_rfl
theorem QFz : T.at 62 = some Qsc := by kernel_rfl
theorem QCR : T.at 63 = some Qsk := by kernel_rfl
theorem QFJ : T.at 64 = some QrT := by kernel_rfl
theorem QDz : T.at 65 = some Quy := by kernel_rfl
theorem QDW : T.at 66 = some QrN := by kernel_rfl
theorem QMD : T.at 68 = some QvM := by kernel_rfl
theorem QL5 : T.at 69 = some Qwp := by kernel_rfl
theorem QKu : T.at 70 = some Qvn := by kernel_rfl
theorem QLg : T.at 81 = some Qwk := by kernel_rfl
theorem QMX : T.at 83 = some QwB := by kernel_rfl
theorem QAq : T.at 97 = some Qq8 := by kernel_rfl
theorem QLD : T.at 98 = some Qu6 := by kernel_rfl
theorem QLY : T.at 99 = some Qv2 := by kernel_rfl
theorem Qyl : T.at 100 = some QnA := by kernel_rfl
theorem QG8 : T.at 101 = some Qo4 := by kernel_rfl
theorem QHP : T.at 102 = some Qpv := by kernel_rfl
theorem QEB : T.at 103 = some Qo5 := by kernel_rfl
theorem QGP : T.at 104 = some Qpa := by kernel_rfl
theorem QIS : T.at 105 = some Qp8 := by kernel_rfl
theorem QxZ : T.at 106 = some QmS := by kernel_rfl
theorem QFS : T.at 107 = some Qo9 := by kernel_rfl
theorem QCb : T.at 110 = some Qp2 := by kernel_rfl
theorem QHp : T.at 111 = some Qpu := by kernel_rfl
theorem QDu : T.at 112 = some QpF := by kernel_rfl
theorem QHx : T.at 113 = some Qqs := by kernel_rfl
theorem QxD : T.at 114 = some Qnl := by kernel_rfl
theorem QxV : T.at 115 = some Qnq := by kernel_rfl
theorem QFB : T.at 116 = some Qo3 := by kernel_rfl
theorem Qxy : T.at 117 = some QmB := by kernel_rfl
theorem QF2 : T.at 118 = some QpH := by kernel_rfl
theorem Qx7 : T.at 119 = some Qmo := by kernel_rfl
theorem QxW : T.at 120 = some Qnx := by kernel_rfl
theorem QCj : T.at 121 = some Qqp := by kernel_rfl
theorem QxO : T.at 122 = some Qnw := by kernel_rfl
theorem QCC : T.at 128 = some QpD := by kernel_rfl
theorem Qyc : T.at 129 = some Qnv := by kernel_rfl
theorem QHu : T.at 137 = some Qpw := by kernel_rfl
theorem QEp : T.at 138 = some Qqt := by kernel_rfl
theorem QIq : T.at 141 = some Qqg := by kernel_rfl
theorem Qym : T.at 150 = some Qmz := by kernel_rfl
theorem QG9 : T.at 152 = some Qp0 := by kernel_rfl
theorem QCf : T.at 157 = some Qpi := by kernel_rfl
theorem QxJ : T.at 165 = some Qnn := by kernel_rfl
theorem Qyt : T.at 166 = some Qm9 := by kernel_rfl
theorem QxP : T.at 167 = some QnB := by kernel_rfl
theorem QxM : T.at 168 = some Qns := by kernel_rfl
theorem QGE : T.at 169 = some Qqh := by kernel_rfl
theorem QE6 : T.at 181 = some Qo8 := by kernel_rfl
theorem QxU : T.at 182 = some QmT := by kernel_rfl
theorem Qyj : T.at 183 = some Qm0 := by kernel_rfl
theorem QEA : T.at 184 = some QpU := by kernel_rfl
theorem Qyb : T.at 185 = some QlI := by kernel_rfl
theorem Qys : T.at 186 = some Qno := by kernel_rfl
theorem QG4 : T.at 187 = some QpA := by kernel_rfl
theorem QDa : T.at 188 = some Qp9 := by kernel_rfl
theorem Qxp : T.at 190 = some QlC := by kernel_rfl
theorem Qx3 : T.at 192 = some Qnh := by kernel_rfl
theorem QDk : T.at 193 = some Qo1 := by kernel_rfl
theorem Qyr : T.at 195 = some Qms := by kernel_rfl
theorem QIf : T.at 197 = some QpG := by kernel_rfl
theorem QHZ : T.at 201 = some Qp1 := by kernel_rfl
theorem Qxs : T.at 202 = some Qmq := by kernel_rfl
theorem QxG : T.at 205 = some QlF := by kernel_rfl
theorem QCw : T.at 206 = some Qps := by kernel_rfl
theorem Qyk : T.at 213 = some QmC := by kernel_rfl
theorem QxS : T.at 216 = some Qni := by kernel_rfl
theorem QxY : T.at 225 = some Qmt := by kernel_rfl
theorem Qub : T.at 226 = some Qki := by kernel_rfl
theorem QDP : T.at 227 = some Qpz := by kernel_rfl
theorem QGo : T.at 228 = some Qqj := by kernel_rfl
theorem Qxo : T.at 235 = some QmL := by kernel_rfl
theorem Qya : T.at 236 = some Qmi := by kernel_rfl
theorem QtA : T.at 237 = some QjX := by kernel_rfl
theorem QxQ : T.at 238 = some QlV := by kernel_rfl
theorem Qyd : T.at 239 = some Ql5 := by kernel_rfl
theorem Qph : T.at 240 = some Qiz := by kernel_rfl
theorem QxB : T.at 241 = some QmI := by kernel_rfl
theorem QDe : T.at 242 = some Qpc := by kernel_rfl
theorem QFU : T.at 243 = some Qpl := by kernel_rfl
theorem QII : T.at 247 = some Qqd := by kernel_rfl
theorem Qx4 : T.at 248 = some Ql3 := by kernel_rfl
theorem QF5 : T.at 249 = some Qp4 := by kernel_rfl
theorem QE1 : T.at 254 = some QpP := by kernel_rfl
theorem QGh : T.at 258 = some Qqr := by kernel_rfl
theorem QG5 : T.at 260 = some Qp5 := by kernel_rfl
theorem QIL : T.at 261 = some Qo2 := by kernel_rfl
theorem Qx1 : T.at 262 = some Qmk := by kernel_rfl
theorem QxE : T.at 263 = some Qmd := by kernel_rfl
theorem Qxu : T.at 264 = some QmE := by kernel_rfl
theorem Qxv : T.at 270 = some Qnb := by kernel_rfl
end Go.Proofs.YtncpklppoancgaaGreat
