import Derived.Test.YtncpklppoancgaaGreatEvB
import Derived.Test.YtncpklppoancgaaGreatFn
import Derived.Test.YtncpklppoancgaaGreatProg
import Derived.KernelRfl
namespace Go.Proofs.YtncpklppoancgaaGreat
open Go Go.Proofs Go.Proofs.YtncpklppoancgaaGreat.Am
set_option maxHeartbeats 4000000
set_option linter.unusedVariables false
set_option linter.unusedSimpArgs false
set_option linter.defProp false
set_option maxRecDepth 100000
def VO (x : Int) : List AV:=[.i .i64 x]
theorem QpB (x : Int) : VO x = [.i .i64 x]:=_root_.id rfl
instance (x : Int) : EncR VO [.i .i64 x] x:=⟨rfl⟩
theorem QH4 (xs : List Int) : Qv (xs.map VO) = xs.map VO:=Qb1 (fun x=>by simp only [QpB,VM,V5]) xs
theorem QFo (xs : List Int) : Qu (xs.map VO) = true:=Qan (fun x=>by simp only [QpB,Xn,AV.clean,Bool.and_self]) xs
theorem QFR {R : List (List AV)} {xs : List Int} (i : Int) [h : EncL VO R xs] : inb R i = inb xs i:=by rw [h.eq,QqG]
theorem QGs {R : List (List AV)} {xs : List Int} (i : Int) [h : EncL VO R xs] (hi : inb xs i = true) : Q4 R i.toNat = VO (gt xs i):=by rw [h.eq,Qrg xs i hi]
def Qdg (x : Int) : List AV:=[.i .u8 x]
theorem QsK (x : Int) : Qdg x = [.i .u8 x]:=_root_.id rfl
instance (x : Int) : EncR Qdg [.i .u8 x] x:=⟨rfl⟩
theorem QEp (xs : List Int) : Qv (xs.map Qdg) = xs.map Qdg:=Qb1 (fun x=>by simp only [QsK,VM,V5]) xs
theorem QDR (xs : List Int) : Qu (xs.map Qdg) = true:=Qan (fun x=>by simp only [QsK,Xn,AV.clean,Bool.and_self]) xs
theorem QLR {R : List (List AV)} {xs : List Int} (i : Int) [h : EncL Qdg R xs] : inb R i = inb xs i:=by rw [h.eq,QqG]
theorem QOT {R : List (List AV)} {xs : List Int} (i : Int) [h : EncL Qdg R xs] (hi : inb xs i = true) : Q4 R i.toNat = Qdg (gt xs i):=by rw [h.eq,Qrg xs i hi]
def c_b (x : Bool) : List AV:=[.b x]
theorem QzP (x : Bool) : c_b x = [.b x]:=_root_.id rfl
instance (x : Bool) : EncR c_b [.b x] x:=⟨rfl⟩
theorem QSd (xs : List Bool) : Qv (xs.map c_b) = xs.map c_b:=Qb1 (fun x=>by simp only [QzP,VM,V5]) xs
theorem QT8 (xs : List Bool) : Qu (xs.map c_b) = true:=Qan (fun x=>by simp only [QzP,Xn,AV.clean,Bool.and_self]) xs
theorem QW3 {R : List (List AV)} {xs : List Bool} (i : Int) [h : EncL c_b R xs] : inb R i = inb xs i:=by rw [h.eq,QqG]
theorem QTh {R : List (List AV)} {xs : List Bool} (i : Int) [h : EncL c_b R xs] (hi : inb xs i = true) : Q4 R i.toNat = c_b (gt xs i):=by rw [h.eq,Qrg xs i hi]
def c_s (x : List UInt8) : List AV:=[.s x]
theorem QAi (x : List UInt8) : c_s x = [.s x]:=_root_.id rfl
instance (x : List UInt8) : EncR c_s [.s x] x:=⟨rfl⟩
theorem QTl (xs : List (List UInt8)) : Qv (xs.map c_s) = xs.map c_s:=Qb1 (fun x=>by simp only [QAi,VM,V5]) xs
theorem QUi (xs : List (List UInt8)) : Qu (xs.map c_s) = true:=Qan (fun x=>by simp only [QAi,Xn,AV.clean,Bool.and_self]) xs
theorem QVM {R : List (List AV)} {xs : List (List UInt8)} (i : Int) [h : EncL c_s R xs] : inb R i = inb xs i:=by rw [h.eq,QqG]
theorem QVc {R : List (List AV)} {xs : List (List UInt8)} (i : Int) [h : EncL c_s R xs] (hi : inb xs i = true) : Q4 R i.toNat = c_s (gt xs i):=by rw [h.eq,Qrg xs i hi]
def VS (x : l1Cur) : List AV:=[.imm 1 (x.b.map Qdg),.i .i64 x.i,.i .i64 x.h]
theorem Qp5 (x : l1Cur) : VS x = [.imm 1 (x.b.map Qdg),.i .i64 x.i,.i .i64 x.h]:=_root_.id rfl
instance (yxi yxh) {R1 yxb} [H1 : EncL Qdg R1 yxb] : EncR VS [.imm 1 R1,.i .i64 yxi,.i .i64 yxh] (⟨yxb,yxi,yxh⟩ : l1Cur):=⟨by obtain ⟨rfl⟩:=H1; rfl⟩
def Ql2 (x : l1Cur) : List AV:=[.own 1 (x.b.map Qdg),.i .i64 x.i,.i .i64 x.h]
theorem QkS (x : l1Cur) : Ql2 x = [.own 1 (x.b.map Qdg),.i .i64 x.i,.i .i64 x.h]:=_root_.id rfl
instance (yxi yxh) {R1 yxb} [H1 : EncL Qdg R1 yxb] : EncR Ql2 [.own 1 R1,.i .i64 yxi,.i .i64 yxh] (⟨yxb,yxi,yxh⟩ : l1Cur):=⟨by obtain ⟨rfl⟩:=H1; rfl⟩
theorem Qxo (xs : List l1Cur) : Qv (xs.map Ql2) = xs.map VS:=Qb1 (fun x=>by simp only [QkS,Qp5,VM,V5,QEp]) xs
theorem QyC (xs : List l1Cur) : Qu (xs.map Ql2) = true:=Qan (fun x=>by simp only [QkS,Xn,AV.clean,Bool.and_self,QDR]) xs
theorem QyY (x : l1Cur) : (⟨x.b,x.i,x.h⟩ : l1Cur) = x:=_root_.id rfl
def QbY (x : Thing) : List AV:=[.i .i64 x.Id,.i .i64 x.Kind,.i .i64 x.Colour,.i .i64 x.Size,.i .i64 x.Worth]
theorem Qmi (x : Thing) : QbY x = [.i .i64 x.Id,.i .i64 x.Kind,.i .i64 x.Colour,.i .i64 x.Size,.i .i64 x.Worth]:=_root_.id rfl
instance (yxId yxKind yxColour yxSize yxWorth)  : EncR QbY [.i .i64 yxId,.i .i64 yxKind,.i .i64 yxColour,.i .i64 yxSize,.i .i64 yxWorth] (⟨yxId,yxKind,yxColour,yxSize,yxWorth⟩ : Thing):=⟨by rfl⟩
theorem Qx7 (xs : List Thing) : Qv (xs.map QbY) = xs.map QbY:=Qb1 (fun x=>by simp only [Qmi,VM,V5]) xs
theorem QxF (xs : List Thing) : Qu (xs.map QbY) = true:=Qan (fun x=>by simp only [Qmi,Xn,AV.clean,Bool.and_self]) xs
theorem QzH (x : Thing) : (⟨x.Id,x.Kind,x.Colour,x.Size,x.Worth⟩ : Thing) = x:=_root_.id rfl
def QH (x : Find) : List AV:=[.i .i64 x.Thing.Id,.i .i64 x.Thing.Kind,.i .i64 x.Thing.Colour,.i .i64 x.Thing.Size,.i .i64 x.Thing.Worth,.i .i64 x.Place,.i .i64 x.At,.i .i64 x.Finder]
theorem QpP (x : Find) : QH x = [.i .i64 x.Thing.Id,.i .i64 x.Thing.Kind,.i .i64 x.Thing.Colour,.i .i64 x.Thing.Size,.i .i64 x.Thing.Worth,.i .i64 x.Place,.i .i64 x.At,.i .i64 x.Finder]:=_root_.id rfl
instance (yxThingxId yxThingxKind yxThingxColour yxThingxSize yxThingxWorth yxPlace yxAt yxFinder)  : EncR QH [.i .i64 yxThingxId,.i .i64 yxThingxKind,.i .i64 yxThingxColour,.i .i64 yxThingxSize,.i .i64 yxThingxWorth,.i .i64 yxPlace,.i .i64 yxAt,.i .i64 yxFinder] (⟨⟨yxThingxId,yxThingxKind,yxThingxColour,yxThingxSize,yxThingxWorth⟩,yxPlace,yxAt,yxFinder⟩ : Find):=⟨by rfl⟩
theorem Quf (xs : List Find) : Qv (xs.map QH) = xs.map QH:=Qb1 (fun x=>by simp only [QpP,VM,V5]) xs
theorem QlS (xs : List Find) : Qu (xs.map QH) = true:=Qan (fun x=>by simp only [QpP,Xn,AV.clean,Bool.and_self]) xs
theorem QCv (x : Find) : (⟨x.Thing,x.Place,x.At,x.Finder⟩ : Find) = x:=_root_.id rfl
def V1 (x : Mark) : List AV:=[.i .i64 x.Question,.i .i64 x.Answer]
theorem Qpm (x : Mark) : V1 x = [.i .i64 x.Question,.i .i64 x.Answer]:=_root_.id rfl
instance (yxQuestion yxAnswer)  : EncR V1 [.i .i64 yxQuestion,.i .i64 yxAnswer] (⟨yxQuestion,yxAnswer⟩ : Mark):=⟨by rfl⟩
theorem Qvg (xs : List Mark) : Qv (xs.map V1) = xs.map V1:=Qb1 (fun x=>by simp only [Qpm,VM,V5]) xs
theorem Qvj (xs : List Mark) : Qu (xs.map V1) = true:=Qan (fun x=>by simp only [Qpm,Xn,AV.clean,Bool.and_self]) xs
theorem QBi (x : Mark) : (⟨x.Question,x.Answer⟩ : Mark) = x:=_root_.id rfl
def Ve (x : Secret) : List AV:=[.i .i64 x.Thing,.imm 2 (x.Marks.map V1),.i .i64 x.Salt]
theorem Qov (x : Secret) : Ve x = [.i .i64 x.Thing,.imm 2 (x.Marks.map V1),.i .i64 x.Salt]:=_root_.id rfl
instance (yxThing yxSalt) {R1 yxMarks} [H1 : EncL V1 R1 yxMarks] : EncR Ve [.i .i64 yxThing,.imm 2 R1,.i .i64 yxSalt] (⟨yxThing,yxMarks,yxSalt⟩ : Secret):=⟨by obtain ⟨rfl⟩:=H1; rfl⟩
def QC (x : Secret) : List AV:=[.i .i64 x.Thing,.own 2 (x.Marks.map V1),.i .i64 x.Salt]
theorem QiL (x : Secret) : QC x = [.i .i64 x.Thing,.own 2 (x.Marks.map V1),.i .i64 x.Salt]:=_root_.id rfl
instance (yxThing yxSalt) {R1 yxMarks} [H1 : EncL V1 R1 yxMarks] : EncR QC [.i .i64 yxThing,.own 2 R1,.i .i64 yxSalt] (⟨yxThing,yxMarks,yxSalt⟩ : Secret):=⟨by obtain ⟨rfl⟩:=H1; rfl⟩
theorem Qn6 (xs : List Secret) : Qv (xs.map QC) = xs.map Ve:=Qb1 (fun x=>by simp only [QiL,Qov,VM,V5,Qvg]) xs
theorem Qhp (xs : List Secret) : Qu (xs.map QC) = true:=Qan (fun x=>by simp only [QiL,Xn,AV.clean,Bool.and_self,Qvj]) xs
theorem QwA (x : Secret) : (⟨x.Thing,x.Marks,x.Salt⟩ : Secret) = x:=_root_.id rfl
def Qk (x : Claim) : List AV:=[.i .i64 x.Id,.i .i64 x.Who,.i .i64 x.Thing,.i .i64 x.At,.i .i64 x.State]
theorem Qnu (x : Claim) : Qk x = [.i .i64 x.Id,.i .i64 x.Who,.i .i64 x.Thing,.i .i64 x.At,.i .i64 x.State]:=_root_.id rfl
instance (yxId yxWho yxThing yxAt yxState)  : EncR Qk [.i .i64 yxId,.i .i64 yxWho,.i .i64 yxThing,.i .i64 yxAt,.i .i64 yxState] (⟨yxId,yxWho,yxThing,yxAt,yxState⟩ : Claim):=⟨by rfl⟩
theorem Qqd (xs : List Claim) : Qv (xs.map Qk) = xs.map Qk:=Qb1 (fun x=>by simp only [Qnu,VM,V5]) xs
theorem Qi7 (xs : List Claim) : Qu (xs.map Qk) = true:=Qan (fun x=>by simp only [Qnu,Xn,AV.clean,Bool.and_self]) xs
theorem Qzs (x : Claim) : (⟨x.Id,x.Who,x.Thing,x.At,x.State⟩ : Claim) = x:=_root_.id rfl
def QL (x : Trial) : List AV:=[.i .i64 x.Claim,.i .i64 x.Asked,.i .i64 x.Right,.i .i64 x.Wrong]
theorem Qmf (x : Trial) : QL x = [.i .i64 x.Claim,.i .i64 x.Asked,.i .i64 x.Right,.i .i64 x.Wrong]:=_root_.id rfl
instance (yxClaim yxAsked yxRight yxWrong)  : EncR QL [.i .i64 yxClaim,.i .i64 yxAsked,.i .i64 yxRight,.i .i64 yxWrong] (⟨yxClaim,yxAsked,yxRight,yxWrong⟩ : Trial):=⟨by rfl⟩
theorem Qr6 (xs : List Trial) : Qv (xs.map QL) = xs.map QL:=Qb1 (fun x=>by simp only [Qmf,VM,V5]) xs
theorem Qj5 (xs : List Trial) : Qu (xs.map QL) = true:=Qan (fun x=>by simp only [Qmf,Xn,AV.clean,Bool.and_self]) xs
theorem QAa (x : Trial) : (⟨x.Claim,x.Asked,x.Right,x.Wrong⟩ : Trial) = x:=_root_.id rfl
def QX (x : Slot) : List AV:=[.i .i64 x.Id,.i .i64 x.Size,.i .i64 x.Thing]
theorem Qpb (x : Slot) : QX x = [.i .i64 x.Id,.i .i64 x.Size,.i .i64 x.Thing]:=_root_.id rfl
instance (yxId yxSize yxThing)  : EncR QX [.i .i64 yxId,.i .i64 yxSize,.i .i64 yxThing] (⟨yxId,yxSize,yxThing⟩ : Slot):=⟨by rfl⟩
theorem Qvz (xs : List Slot) : Qv (xs.map QX) = xs.map QX:=Qb1 (fun x=>by simp only [Qpb,VM,V5]) xs
theorem Qu5 (xs : List Slot) : Qu (xs.map QX) = true:=Qan (fun x=>by simp only [Qpb,Xn,AV.clean,Bool.and_self]) xs
theorem QC2 (x : Slot) : (⟨x.Id,x.Size,x.Thing⟩ : Slot) = x:=_root_.id rfl
def Vj (x : Hand) : List AV:=[.i .i64 x.Thing,.i .i64 x.Holder,.i .i64 x.Who,.i .i64 x.At,.i .i64 x.Seal]
theorem Qpe (x : Hand) : Vj x = [.i .i64 x.Thing,.i .i64 x.Holder,.i .i64 x.Who,.i .i64 x.At,.i .i64 x.Seal]:=_root_.id rfl
instance (yxThing yxHolder yxWho yxAt yxSeal)  : EncR Vj [.i .i64 yxThing,.i .i64 yxHolder,.i .i64 yxWho,.i .i64 yxAt,.i .i64 yxSeal] (⟨yxThing,yxHolder,yxWho,yxAt,yxSeal⟩ : Hand):=⟨by rfl⟩
theorem Quw (xs : List Hand) : Qv (xs.map Vj) = xs.map Vj:=Qb1 (fun x=>by simp only [Qpe,VM,V5]) xs
theorem QuW (xs : List Hand) : Qu (xs.map Vj) = true:=Qan (fun x=>by simp only [Qpe,Xn,AV.clean,Bool.and_self]) xs
theorem QBg (x : Hand) : (⟨x.Thing,x.Holder,x.Who,x.At,x.Seal⟩ : Hand) = x:=_root_.id rfl
def QZ (x : Entry) : List AV:=[.i .i64 x.From,.i .i64 x.To,.i .i64 x.Cents,.i .i64 x.At]
theorem QmE (x : Entry) : QZ x = [.i .i64 x.From,.i .i64 x.To,.i .i64 x.Cents,.i .i64 x.At]:=_root_.id rfl
instance (yxFrom yxTo yxCents yxAt)  : EncR QZ [.i .i64 yxFrom,.i .i64 yxTo,.i .i64 yxCents,.i .i64 yxAt] (⟨yxFrom,yxTo,yxCents,yxAt⟩ : Entry):=⟨by rfl⟩
theorem Qq6 (xs : List Entry) : Qv (xs.map QZ) = xs.map QZ:=Qb1 (fun x=>by simp only [QmE,VM,V5]) xs
theorem Qqb (xs : List Entry) : Qu (xs.map QZ) = true:=Qan (fun x=>by simp only [QmE,Xn,AV.clean,Bool.and_self]) xs
theorem QxW (x : Entry) : (⟨x.From,x.To,x.Cents,x.At⟩ : Entry) = x:=_root_.id rfl
def Q5 (x : House) : List AV:=[.i .i64 x.No,.imm 8 (x.Finds.map QH),.imm 3 (x.Secrets.map Ve),.imm 3 (x.Slots.map QX),.imm 5 (x.Claims.map Qk),.imm 4 (x.Trials.map QL),.imm 5 (x.Chain.map Vj),.imm 4 (x.Book.map QZ),.i .i64 x.Now]
theorem Qro (x : House) : Q5 x = [.i .i64 x.No,.imm 8 (x.Finds.map QH),.imm 3 (x.Secrets.map Ve),.imm 3 (x.Slots.map QX),.imm 5 (x.Claims.map Qk),.imm 4 (x.Trials.map QL),.imm 5 (x.Chain.map Vj),.imm 4 (x.Book.map QZ),.i .i64 x.Now]:=_root_.id rfl
instance (yxNo yxNow) {R1 yxFinds R2 yxSecrets R3 yxSlots R4 yxClaims R5 yxTrials R6 yxChain R7 yxBook} [H1 : EncL QH R1 yxFinds] [H2 : EncL Ve R2 yxSecrets] [H3 : EncL QX R3 yxSlots] [H4 : EncL Qk R4 yxClaims] [H5 : EncL QL R5 yxTrials] [H6 : EncL Vj R6 yxChain] [H7 : EncL QZ R7 yxBook] : EncR Q5 [.i .i64 yxNo,.imm 8 R1,.imm 3 R2,.imm 3 R3,.imm 5 R4,.imm 4 R5,.imm 5 R6,.imm 4 R7,.i .i64 yxNow] (⟨yxNo,yxFinds,yxSecrets,yxSlots,yxClaims,yxTrials,yxChain,yxBook,yxNow⟩ : House):=⟨by obtain ⟨rfl⟩:=H1; obtain ⟨rfl⟩:=H2; obtain ⟨rfl⟩:=H3; obtain ⟨rfl⟩:=H4; obtain ⟨rfl⟩:=H5; obtain ⟨rfl⟩:=H6; obtain ⟨rfl⟩:=H7; rfl⟩
def VW (x : House) : List AV:=[.i .i64 x.No,.own 8 (x.Finds.map QH),.own 3 (x.Secrets.map QC),.own 3 (x.Slots.map QX),.own 5 (x.Claims.map Qk),.own 4 (x.Trials.map QL),.own 5 (x.Chain.map Vj),.own 4 (x.Book.map QZ),.i .i64 x.Now]
theorem Qkj (x : House) : VW x = [.i .i64 x.No,.own 8 (x.Finds.map QH),.own 3 (x.Secrets.map QC),.own 3 (x.Slots.map QX),.own 5 (x.Claims.map Qk),.own 4 (x.Trials.map QL),.own 5 (x.Chain.map Vj),.own 4 (x.Book.map QZ),.i .i64 x.Now]:=_root_.id rfl
instance (yxNo yxNow) {R1 yxFinds R2 yxSecrets R3 yxSlots R4 yxClaims R5 yxTrials R6 yxChain R7 yxBook} [H1 : EncL QH R1 yxFinds] [H2 : EncL QC R2 yxSecrets] [H3 : EncL QX R3 yxSlots] [H4 : EncL Qk R4 yxClaims] [H5 : EncL QL R5 yxTrials] [H6 : EncL Vj R6 yxChain] [H7 : EncL QZ R7 yxBook] : EncR VW [.i .i64 yxNo,.own 8 R1,.own 3 R2,.own 3 R3,.own 5 R4,.own 4 R5,.own 5 R6,.own 4 R7,.i .i64 yxNow] (⟨yxNo,yxFinds,yxSecrets,yxSlots,yxClaims,yxTrials,yxChain,yxBook,yxNow⟩ : House):=⟨by obtain ⟨rfl⟩:=H1; obtain ⟨rfl⟩:=H2; obtain ⟨rfl⟩:=H3; obtain ⟨rfl⟩:=H4; obtain ⟨rfl⟩:=H5; obtain ⟨rfl⟩:=H6; obtain ⟨rfl⟩:=H7; rfl⟩
theorem QzB (xs : List House) : Qv (xs.map VW) = xs.map Q5:=Qb1 (fun x=>by simp only [Qkj,Qro,VM,V5,Qqd,Qq6,Quf,Quw,Qn6,Qvz,Qr6]) xs
theorem QxH (xs : List House) : Qu (xs.map VW) = true:=Qan (fun x=>by simp only [Qkj,Xn,AV.clean,Bool.and_self,Qi7,Qqb,QlS,QuW,Qhp,Qu5,Qj5]) xs
theorem QAe (x : House) : (⟨x.No,x.Finds,x.Secrets,x.Slots,x.Claims,x.Trials,x.Chain,x.Book,x.Now⟩ : House) = x:=_root_.id rfl
def ZV (x : Bid) : List AV:=[.i .i64 x.Who,.i .i64 x.Cents,.i .i64 x.Seal]
theorem Qsl (x : Bid) : ZV x = [.i .i64 x.Who,.i .i64 x.Cents,.i .i64 x.Seal]:=_root_.id rfl
instance (yxWho yxCents yxSeal)  : EncR ZV [.i .i64 yxWho,.i .i64 yxCents,.i .i64 yxSeal] (⟨yxWho,yxCents,yxSeal⟩ : Bid):=⟨by rfl⟩
theorem QE5 (xs : List Bid) : Qv (xs.map ZV) = xs.map ZV:=Qb1 (fun x=>by simp only [Qsl,VM,V5]) xs
theorem QFa (xs : List Bid) : Qu (xs.map ZV) = true:=Qan (fun x=>by simp only [Qsl,Xn,AV.clean,Bool.and_self]) xs
theorem QIA (x : Bid) : (⟨x.Who,x.Cents,x.Seal⟩ : Bid) = x:=_root_.id rfl
def QkC (x : Share) : List AV:=[.i .i64 x.Who,.i .i64 x.Cents]
theorem Qnl (x : Share) : QkC x = [.i .i64 x.Who,.i .i64 x.Cents]:=_root_.id rfl
instance (yxWho yxCents)  : EncR QkC [.i .i64 yxWho,.i .i64 yxCents] (⟨yxWho,yxCents⟩ : Share):=⟨by rfl⟩
theorem Qx3 (xs : List Share) : Qv (xs.map QkC) = xs.map QkC:=Qb1 (fun x=>by simp only [Qnl,VM,V5]) xs
theorem QyA (xs : List Share) : Qu (xs.map QkC) = true:=Qan (fun x=>by simp only [Qnl,Xn,AV.clean,Bool.and_self]) xs
theorem QxB (x : Share) : (⟨x.Who,x.Cents⟩ : Share) = x:=_root_.id rfl
def QQU:=aI @QpB <| aI @QH4 <| aI @QFo <| aI @QFR <| aI @QGs <| aI @QsK <| aI @QEp <| aI @QDR <| aI @QLR <| aI @QOT <| aI @QzP <| aI @QSd <| aI @QT8 <| aI @QW3 <| aI @QTh <| aI @QAi <| aI @QTl <| aI @QUi <| aI @QVM <| aI @QVc <| aI @Qp5 <| aI @Qxo <| aI @QyC <| aI @QyY <| aI @QkS <| aI @Qmi <| aI @Qx7 <| aI @QxF <| aI @QzH <| aI @QpP <| aI @Quf <| aI @QlS <| aI @QCv <| aI @Qpm <| aI @Qvg <| aI @Qvj <| aI @QBi <| aI @Qov <| aI @Qn6 <| aI @Qhp <| aI @QwA <| aI @QiL <| aI @Qnu <| aI @Qqd <| aI @Qi7 <| aI @Qzs <| aI @Qmf <| aI @Qr6 <| aI @Qj5 <| aI @QAa <| aI @Qpb <| aI @Qvz <| aI @Qu5 <| aI @QC2 <| aI @Qpe <| aI @Quw <| aI @QuW <| aI @QBg <| aI @QmE <| aI @Qq6 <| aI @Qqb <| aI @QxW <| aI @Qro <| aI @QzB <| aI @QxH <| aI @QAe <| aI @Qkj <| aI @Qsl <| aI @QE5 <| aI @QFa <| aI @QIA <| aI @Qnl <| aI @Qx3 <| aI @QyA <| aI @QxB <| aI @Qwd <| aI @QvZ <| aI @QwH <| aI @Qtb <| aI @QsP <| aI @QwU @Qtv
theorem tys : bsl Tryz.prog 5 = false ∧ QeX Tryz.prog 24 = true ∧ QeX Tryz.prog 27 = true ∧ QeX Tryz.prog 29 = true ∧ QeX Tryz.prog 30 = true ∧ QeX Tryz.prog 31 = true ∧ QeX Tryz.prog 32 = true ∧ QeX Tryz.prog 58 = true ∧ QeX Tryz.prog 69 = true ∧ QeS Tryz.prog 142 = [0,0] ∧ QeS Tryz.prog 185 = [0] ∧ QeS Tryz.prog 24 = [0,0,0] ∧ QeS Tryz.prog 27 = [0,0,0,0,0,0,0,0] ∧ QeS Tryz.prog 28 = [0,2,0] ∧ QeS Tryz.prog 29 = [0,0,0,0,0] ∧ QeS Tryz.prog 30 = [0,0,0,0] ∧ QeS Tryz.prog 31 = [0,0,0,0,0] ∧ QeS Tryz.prog 32 = [0,0,0,0] ∧ QeS Tryz.prog 40 = [0] ∧ QeS Tryz.prog 58 = [0,0] ∧ QeS Tryz.prog 69 = [0,0,0] ∧ tb Tryz.prog 101 = some 32 ∧ tb Tryz.prog 107 = some 40 ∧ tb Tryz.prog 119 = some 40 ∧ tb Tryz.prog 171 = some 16 ∧ tb Tryz.prog 196 = some 24 ∧ tb Tryz.prog 3 = some 8 ∧ tb Tryz.prog 48 = some 32 ∧ tb Tryz.prog 57 = some 64 ∧ tb Tryz.prog 83 = some 24 ∧ tb Tryz.prog 93 = some 40 ∧ tbd Tryz.prog 101 = .st [.i .i64 0,.i .i64 0,.i .i64 0,.i .i64 0] [(0,1),(1,1),(2,1),(3,1)] ∧ tbd Tryz.prog 107 = .st [.i .i64 0,.i .i64 0,.i .i64 0,.i .i64 0,.i .i64 0] [(0,1),(1,1),(2,1),(3,1),(4,1)] ∧ tbd Tryz.prog 119 = .st [.i .i64 0,.nil,.i .i64 0] [(0,1),(1,1),(2,1)] ∧ tbd Tryz.prog 145 = .st [.i .i64 0,.i .i64 0] [(0,1),(1,1)] ∧ tbd Tryz.prog 148 = .st [.nil,.i .i64 0,.i .i64 0] [(0,1),(1,1),(2,1)] ∧ tbd Tryz.prog 171 = .st [.i .i64 0,.i .i64 0] [(0,1),(1,1)] ∧ tbd Tryz.prog 196 = .st [.i .i64 0,.i .i64 0,.i .i64 0] [(0,1),(1,1),(2,1)] ∧ tbd Tryz.prog 202 = .arr [.s [],.s [],.s [],.s [],.s []] 1 ∧ tbd Tryz.prog 34 = .st [.i .i64 0,.nil,.nil,.nil,.nil,.nil,.nil,.nil,.i .i64 0] [(0,1),(1,1),(2,1),(3,1),(4,1),(5,1),(6,1),(7,1),(8,1)] ∧ tbd Tryz.prog 48 = .st [.i .i64 0,.i .i64 0,.i .i64 0,.i .i64 0] [(0,1),(1,1),(2,1),(3,1)] ∧ tbd Tryz.prog 55 = .st [.i .i64 0,.i .i64 0,.i .i64 0,.i .i64 0,.i .i64 0] [(0,1),(1,1),(2,1),(3,1),(4,1)] ∧ tbd Tryz.prog 57 = .st [.i .i64 0,.i .i64 0,.i .i64 0,.i .i64 0,.i .i64 0,.i .i64 0,.i .i64 0,.i .i64 0] [(0,5),(5,1),(6,1),(7,1)] ∧ tbd Tryz.prog 83 = .st [.i .i64 0,.i .i64 0,.i .i64 0] [(0,1),(1,1),(2,1)] ∧ tbd Tryz.prog 93 = .st [.i .i64 0,.i .i64 0,.i .i64 0,.i .i64 0,.i .i64 0] [(0,1),(1,1),(2,1),(3,1),(4,1)] ∧ Qf6 Tryz.prog 101 = some [.i,.i,.i,.i] ∧ Qf6 Tryz.prog 107 = some [.i,.i,.i,.i,.i] ∧ Qf6 Tryz.prog 171 = some [.i,.i] ∧ Qf6 Tryz.prog 4 = some [.t] ∧ Qf6 Tryz.prog 48 = some [.i,.i,.i,.i] ∧ Qf6 Tryz.prog 57 = some [.i,.i,.i,.i,.i,.i,.i,.i] ∧ Qf6 Tryz.prog 83 = some [.i,.i,.i] ∧ Qf6 Tryz.prog 93 = some [.i,.i,.i,.i,.i] ∧ tfo Tryz.prog 101 0 = some (0,.one) ∧ tfo Tryz.prog 101 1 = some (1,.one) ∧ tfo Tryz.prog 101 2 = some (2,.one) ∧ tfo Tryz.prog 101 3 = some (3,.one) ∧ tfo Tryz.prog 107 0 = some (0,.one) ∧ tfo Tryz.prog 107 1 = some (1,.one) ∧ tfo Tryz.prog 107 2 = some (2,.one) ∧ tfo Tryz.prog 107 3 = some (3,.one) ∧ tfo Tryz.prog 107 4 = some (4,.one) ∧ tfo Tryz.prog 119 0 = some (0,.one) ∧ tfo Tryz.prog 119 1 = some (1,.one) ∧ tfo Tryz.prog 119 2 = some (2,.one) ∧ tfo Tryz.prog 145 1 = some (1,.one) ∧ tfo Tryz.prog 148 0 = some (0,.one) ∧ tfo Tryz.prog 148 1 = some (1,.one) ∧ tfo Tryz.prog 148 2 = some (2,.one) ∧ tfo Tryz.prog 171 0 = some (0,.one) ∧ tfo Tryz.prog 171 1 = some (1,.one) ∧ tfo Tryz.prog 196 0 = some (0,.one) ∧ tfo Tryz.prog 196 1 = some (1,.one) ∧ tfo Tryz.prog 196 2 = some (2,.one) ∧ tfo Tryz.prog 34 0 = some (0,.one) ∧ tfo Tryz.prog 34 1 = some (1,.one) ∧ tfo Tryz.prog 34 2 = some (2,.one) ∧ tfo Tryz.prog 34 3 = some (3,.one) ∧ tfo Tryz.prog 34 4 = some (4,.one) ∧ tfo Tryz.prog 34 5 = some (5,.one) ∧ tfo Tryz.prog 34 6 = some (6,.one) ∧ tfo Tryz.prog 34 7 = some (7,.one) ∧ tfo Tryz.prog 34 8 = some (8,.one) ∧ tfo Tryz.prog 48 0 = some (0,.one) ∧ tfo Tryz.prog 48 1 = some (1,.one) ∧ tfo Tryz.prog 48 2 = some (2,.one) ∧ tfo Tryz.prog 48 3 = some (3,.one) ∧ tfo Tryz.prog 55 0 = some (0,.one) ∧ tfo Tryz.prog 55 1 = some (1,.one) ∧ tfo Tryz.prog 55 2 = some (2,.one) ∧ tfo Tryz.prog 55 3 = some (3,.one) ∧ tfo Tryz.prog 55 4 = some (4,.one) ∧ tfo Tryz.prog 57 0 = some (0,.agg 5) ∧ tfo Tryz.prog 57 1 = some (5,.one) ∧ tfo Tryz.prog 57 2 = some (6,.one) ∧ tfo Tryz.prog 57 3 = some (7,.one) ∧ tfo Tryz.prog 83 0 = some (0,.one) ∧ tfo Tryz.prog 83 1 = some (1,.one) ∧ tfo Tryz.prog 83 2 = some (2,.one) ∧ tfo Tryz.prog 93 0 = some (0,.one) ∧ tfo Tryz.prog 93 1 = some (1,.one) ∧ tfo Tryz.prog 93 2 = some (2,.one) ∧ tfo Tryz.prog 93 3 = some (3,.one) ∧ tfo Tryz.prog 93 4 = some (4,.one) ∧ ti Tryz.prog 142 = .sl 145 2 ∧ ti Tryz.prog 185 = .sl 4 1 ∧ ti Tryz.prog 202 = .arr 5 9 1 ∧ ti Tryz.prog 22 = .sl 5 1 ∧ ti Tryz.prog 24 = .sl 83 3 ∧ ti Tryz.prog 27 = .sl 57 8 ∧ ti Tryz.prog 28 = .sl 119 3 ∧ ti Tryz.prog 29 = .sl 107 5 ∧ ti Tryz.prog 3 = .int .i64 ∧ ti Tryz.prog 30 = .sl 48 4 ∧ ti Tryz.prog 31 = .sl 93 5 ∧ ti Tryz.prog 32 = .sl 101 4 ∧ ti Tryz.prog 40 = .sl 3 1 ∧ ti Tryz.prog 58 = .sl 171 2 ∧ ti Tryz.prog 69 = .sl 196 3 ∧ tk Tryz.prog 101 = .agg 4 ∧ tk Tryz.prog 107 = .agg 5 ∧ tk Tryz.prog 119 = .agg 3 ∧ tk Tryz.prog 171 = .agg 2 ∧ tk Tryz.prog 196 = .agg 3 ∧ tk Tryz.prog 202 = .agg 5 ∧ tk Tryz.prog 22 = .one ∧ tk Tryz.prog 24 = .one ∧ tk Tryz.prog 27 = .one ∧ tk Tryz.prog 28 = .one ∧ tk Tryz.prog 29 = .one ∧ tk Tryz.prog 3 = .one ∧ tk Tryz.prog 30 = .one ∧ tk Tryz.prog 31 = .one ∧ tk Tryz.prog 32 = .one ∧ tk Tryz.prog 34 = .agg 9 ∧ tk Tryz.prog 4 = .one ∧ tk Tryz.prog 48 = .agg 4 ∧ tk Tryz.prog 5 = .one ∧ tk Tryz.prog 55 = .agg 5 ∧ tk Tryz.prog 57 = .agg 8 ∧ tk Tryz.prog 58 = .one ∧ tk Tryz.prog 83 = .agg 3 ∧ tk Tryz.prog 9 = .one ∧ tk Tryz.prog 93 = .agg 5 ∧ QbW Tryz.prog 24 = true ∧ QbW Tryz.prog 27 = true ∧ QbW Tryz.prog 28 = true ∧ QbW Tryz.prog 29 = true ∧ QbW Tryz.prog 30 = true ∧ QbW Tryz.prog 31 = true ∧ QbW Tryz.prog 32 = true ∧ QbW Tryz.prog 40 = true ∧ QbW Tryz.prog 58 = true ∧ QbW Tryz.prog 69 = true ∧ tok Tryz.prog 5 = true ∧ tse Tryz.prog 142 = some (145,2,[.i .i64 0,.i .i64 0]) ∧ tse Tryz.prog 185 = some (4,1,[.b false]) ∧ tse Tryz.prog 24 = some (83,3,[.i .i64 0,.i .i64 0,.i .i64 0]) ∧ tse Tryz.prog 27 = some (57,8,[.i .i64 0,.i .i64 0,.i .i64 0,.i .i64 0,.i .i64 0,.i .i64 0,.i .i64 0,.i .i64 0]) ∧ tse Tryz.prog 28 = some (119,3,[.i .i64 0,.nil,.i .i64 0]) ∧ tse Tryz.prog 29 = some (107,5,[.i .i64 0,.i .i64 0,.i .i64 0,.i .i64 0,.i .i64 0]) ∧ tse Tryz.prog 30 = some (48,4,[.i .i64 0,.i .i64 0,.i .i64 0,.i .i64 0]) ∧ tse Tryz.prog 31 = some (93,5,[.i .i64 0,.i .i64 0,.i .i64 0,.i .i64 0,.i .i64 0]) ∧ tse Tryz.prog 32 = some (101,4,[.i .i64 0,.i .i64 0,.i .i64 0,.i .i64 0]) ∧ tse Tryz.prog 40 = some (3,1,[.i .i64 0]) ∧ tse Tryz.prog 58 = some (171,2,[.i .i64 0,.i .i64 0]) ∧ tse Tryz.prog 69 = some (196,3,[.i .i64 0,.i .i64 0,.i .i64 0]) ∧ tzc Tryz.prog 101 = some [.i .i64 0,.i .i64 0,.i .i64 0,.i .i64 0] ∧ tzc Tryz.prog 107 = some [.i .i64 0,.i .i64 0,.i .i64 0,.i .i64 0,.i .i64 0] ∧ tzc Tryz.prog 119 = some [.i .i64 0,.nil,.i .i64 0] ∧ tzc Tryz.prog 171 = some [.i .i64 0,.i .i64 0] ∧ tzc Tryz.prog 196 = some [.i .i64 0,.i .i64 0,.i .i64 0] ∧ tzc Tryz.prog 202 = some [.s [],.s [],.s [],.s [],.s []] ∧ tzc Tryz.prog 34 = some [.i .i64 0,.nil,.nil,.nil,.nil,.nil,.nil,.nil,.i .i64 0] ∧ tzc Tryz.prog 48 = some [.i .i64 0,.i .i64 0,.i .i64 0,.i .i64 0] ∧ tzc Tryz.prog 55 = some [.i .i64 0,.i .i64 0,.i .i64 0,.i .i64 0,.i .i64 0] ∧ tzc Tryz.prog 57 = some [.i .i64 0,.i .i64 0,.i .i64 0,.i .i64 0,.i .i64 0,.i .i64 0,.i .i64 0,.i .i64 0] ∧ tzc Tryz.prog 83 = some [.i .i64 0,.i .i64 0,.i .i64 0] ∧ tzc Tryz.prog 93 = some [.i .i64 0,.i .i64 0,.i .i64 0,.i .i64 0,.i .i64 0]:=by and_intros <;> kernel_rfl
def mt (g : Nat) (K : KS) (args : List AV) : Option AV:=mtI [(78,(4,32)),(136,(8,64)),(139,(3,40)),(145,(5,40))] g K args
def An4 : Ann:={ ord:=[(17,[0,1,2,3,4,5,6,8,9,10,7,11,12,13,14,15,16,17,18,19,20,21,22,23,24,25,26,27,28,29,30,31,32,33,34,35,36,37,38,39,40,41,42,43,44,45,46,47,48,50,49,51,52,53,54,55,56,57,58,59,60,61,62,63,64,65,66,67,68,69,70,71,72,73,74,75,76,77,79,80,78,81,82,83,84,85,86,87,88,89,90,91,92,93,95,94,96,97,98,99,100,101,102,103,104,105,106,107,108,109,110,111,112,113,114,115,116])],jn:=[(17,(244,128,244)),(19,(2,245,299))] }
def An5 : Ann:={}
def An8 : Ann:={ jn:=[(6,(54,15,54))],lp:=[(4,⟨[0,8,9,10],[],[],[]⟩)],rt:=⟨[2],[],[],[]⟩ }
def QBz : Ann:={ ord:=[(1,[0,1,2,3,4,5,6,7,8,9,10,11,12,13,14,15,16,17,18,19,20,21,22,23,24,25,26,27,28,29,30,31,32,33,34,35,36,37,38,39,40,41,42,44,45,43,46,47,48,49,50,51,52,53])],jn:=[(1,(2,3,56))] }
def QAc : Ann:={ lp:=[(3,⟨[1,3,8,9,10],[.s 1 0,.s 3 1],[3],[.s 3 1]⟩)],sh:=[.z 1] }
def QyO : Ann:={ ac:=[(10,0)],jn:=[(7,(36,20,36))],lp:=[(5,⟨[0,1,5,13,14,15],[.s 5 1],[5],[.s 5 1]⟩)],sh:=[.z 1] }
def QDv : Ann:={ jn:=[(1,(4,5,66))] }
def QCN : Ann:={ ot:=[(7,.one 2 (.one 4 (.alt (.one 0 (.alt (.one 1 (.alt (.one 3 (.one 5 (.one 6 (.one 7 (.one 8 (.one 9 (.one 10 (.done)))))))) (.one 5 (.one 3 (.one 6 (.one 7 (.one 8 (.one 9 (.one 10 (.done)))))))))) (.alt (.one 3 (.alt (.one 1 (.one 5 (.one 6 (.one 7 (.one 8 (.one 9 (.one 10 (.done)))))))) (.one 5 (.alt (.one 1 (.one 6 (.one 7 (.one 8 (.one 9 (.one 10 (.done))))))) (.one 6 (.alt (.one 1 (.one 7 (.one 8 (.one 9 (.one 10 (.done)))))) (.one 7 (.one 1 (.one 8 (.one 9 (.one 10 (.done)))))))))))) (.one 5 (.alt (.one 1 (.one 3 (.one 6 (.one 7 (.one 8 (.one 9 (.one 10 (.done)))))))) (.one 3 (.alt (.one 1 (.one 6 (.one 7 (.one 8 (.one 9 (.one 10 (.done))))))) (.one 6 (.alt (.one 1 (.one 7 (.one 8 (.one 9 (.one 10 (.done)))))) (.one 7 (.one 1 (.one 8 (.one 9 (.one 10 (.done))))))))))))))) (.alt (.one 1 (.alt (.one 0 (.alt (.one 3 (.one 5 (.one 6 (.one 7 (.one 8 (.one 9 (.one 10 (.done)))))))) (.one 5 (.one 3 (.one 6 (.one 7 (.one 8 (.one 9 (.one 10 (.done)))))))))) (.alt (.one 3 (.alt (.one 0 (.one 5 (.one 6 (.one 7 (.one 8 (.one 9 (.one 10 (.done)))))))) (.one 5 (.alt (.one 0 (.one 6 (.one 7 (.one 8 (.one 9 (.one 10 (.done))))))) (.one 6 (.one 0 (.one 7 (.one 8 (.one 9 (.one 10 (.done))))))))))) (.one 5 (.alt (.one 0 (.one 3 (.one 6 (.one 7 (.one 8 (.one 9 (.one 10 (.done)))))))) (.one 3 (.alt (.one 0 (.one 6 (.one 7 (.one 8 (.one 9 (.one 10 (.done))))))) (.one 6 (.one 0 (.one 7 (.one 8 (.one 9 (.one 10 (.done)))))))))))))) (.alt (.one 3 (.alt (.one 0 (.alt (.one 1 (.one 5 (.one 6 (.one 7 (.one 8 (.one 9 (.one 10 (.done)))))))) (.one 5 (.alt (.one 1 (.one 6 (.one 7 (.one 8 (.one 9 (.one 10 (.done))))))) (.one 6 (.alt (.one 1 (.one 7 (.one 8 (.one 9 (.one 10 (.done)))))) (.one 7 (.one 1 (.one 8 (.one 9 (.one 10 (.done)))))))))))) (.alt (.one 1 (.alt (.one 0 (.one 5 (.one 6 (.one 7 (.one 8 (.one 9 (.one 10 (.done)))))))) (.one 5 (.alt (.one 0 (.one 6 (.one 7 (.one 8 (.one 9 (.one 10 (.done))))))) (.one 6 (.one 0 (.one 7 (.one 8 (.one 9 (.one 10 (.done))))))))))) (.one 5 (.alt (.one 0 (.alt (.one 1 (.one 6 (.one 7 (.one 8 (.one 9 (.one 10 (.done))))))) (.one 6 (.alt (.one 1 (.one 7 (.one 8 (.one 9 (.one 10 (.done)))))) (.one 7 (.one 1 (.one 8 (.one 9 (.one 10 (.done)))))))))) (.alt (.one 1 (.alt (.one 0 (.one 6 (.one 7 (.one 8 (.one 9 (.one 10 (.done))))))) (.one 6 (.one 0 (.one 7 (.one 8 (.one 9 (.one 10 (.done))))))))) (.one 6 (.one 0 (.alt (.one 1 (.one 7 (.one 8 (.one 9 (.one 10 (.done)))))) (.one 7 (.one 1 (.one 8 (.one 9 (.one 10 (.done))))))))))))))) (.one 5 (.alt (.one 0 (.alt (.one 1 (.one 3 (.one 6 (.one 7 (.one 8 (.one 9 (.one 10 (.done)))))))) (.one 3 (.alt (.one 1 (.one 6 (.one 7 (.one 8 (.one 9 (.one 10 (.done))))))) (.one 6 (.alt (.one 1 (.one 7 (.one 8 (.one 9 (.one 10 (.done)))))) (.one 7 (.one 1 (.one 8 (.one 9 (.one 10 (.done)))))))))))) (.alt (.one 1 (.alt (.one 0 (.one 3 (.one 6 (.one 7 (.one 8 (.one 9 (.one 10 (.done)))))))) (.one 3 (.alt (.one 0 (.one 6 (.one 7 (.one 8 (.one 9 (.one 10 (.done))))))) (.one 6 (.one 0 (.one 7 (.one 8 (.one 9 (.one 10 (.done))))))))))) (.one 3 (.alt (.one 0 (.alt (.one 1 (.one 6 (.one 7 (.one 8 (.one 9 (.one 10 (.done))))))) (.one 6 (.alt (.one 1 (.one 7 (.one 8 (.one 9 (.one 10 (.done)))))) (.one 7 (.one 1 (.one 8 (.one 9 (.one 10 (.done)))))))))) (.alt (.one 1 (.alt (.one 0 (.one 6 (.one 7 (.one 8 (.one 9 (.one 10 (.done))))))) (.one 6 (.one 0 (.one 7 (.one 8 (.one 9 (.one 10 (.done))))))))) (.one 6 (.one 0 (.alt (.one 1 (.one 7 (.one 8 (.one 9 (.one 10 (.done)))))) (.one 7 (.one 1 (.one 8 (.one 9 (.one 10 (.done))))))))))))))))))))],av:=[(1,[36]),(2,[67]),(3,[57,68]),(4,[57]),(5,[38]),(7,[37,70])],sh:=[.a [0,8,3,3,5,4,5,4,0],.n,.z 2,.n] }
def QDt : Ann:={ av:=[(6,[76])],sh:=[.a [0,8,3,3,5,4,5,4,0],.n] }
def QCx : Ann:={ ot:=[(5,.one 1 (.one 2 (.one 3 (.alt (.one 0 (.one 4 (.one 5 (.one 6 (.one 7 (.one 8 (.one 9 (.done)))))))) (.one 4 (.one 0 (.one 5 (.one 6 (.one 7 (.one 8 (.one 9 (.done))))))))))))],av:=[(1,[36]),(2,[67]),(3,[37]),(4,[57]),(5,[57])],sh:=[.a [0,8,3,3,5,4,5,4,0],.n,.n,.n] }
def QCq : Ann:={ ot:=[(5,.one 0 (.one 1 (.one 2 (.one 3 (.one 4 (.one 6 (.one 7 (.alt (.one 5 (.one 8 (.one 9 (.one 10 (.one 11 (.done)))))) (.one 8 (.one 5 (.one 9 (.one 10 (.one 11 (.done))))))))))))))],av:=[(5,[78]),(6,[76])],jn:=[(3,(40,27,40))],sh:=[.a [0,8,3,3,5,4,5,4,0],.n] }
def QCa : Ann:={ av:=[(1,[36]),(2,[67]),(3,[57]),(5,[38]),(6,[57])],sh:=[.a [0,8,3,3,5,4,5,4,0],.n,.n] }
def QB6 : Ann:={ av:=[(12,[76])],jn:=[(3,(33,18,33))],sh:=[.a [0,8,3,3,5,4,5,4,0],.n] }
def QAx : Ann:={ ot:=[(3,.one 1 (.alt (.one 0 (.one 2 (.one 3 (.one 4 (.one 5 (.done)))))) (.one 2 (.one 0 (.one 3 (.one 4 (.one 5 (.done))))))))],av:=[(1,[36]),(2,[67]),(3,[57])],sh:=[.a [0,8,3,3,5,4,5,4,0],.n] }
def QBW : Ann:={ av:=[(12,[76])],jn:=[(3,(30,25,30))],sh:=[.a [0,8,3,3,5,4,5,4,0],.n] }
def QBu : Ann:={ ot:=[(5,.one 1 (.one 4 (.alt (.one 0 (.one 2 (.one 3 (.one 5 (.one 6 (.one 7 (.one 8 (.done)))))))) (.one 2 (.one 3 (.alt (.one 0 (.one 5 (.one 6 (.one 7 (.one 8 (.done)))))) (.one 5 (.one 0 (.one 6 (.one 7 (.one 8 (.done))))))))))))],av:=[(1,[36]),(2,[67]),(3,[38]),(5,[57,90])],sh:=[.a [0,8,3,3,5,4,5,4,0],.n,.z 3] }
def QBJ : Ann:={ av:=[(11,[76])],jn:=[(3,(42,28,42)),(9,(80,68,80))],sh:=[.a [0,8,3,3,5,4,5,4,0],.n] }
def QDB : Ann:={ ot:=[(5,.one 1 (.alt (.one 0 (.one 2 (.one 3 (.one 4 (.one 5 (.done)))))) (.one 2 (.one 0 (.one 3 (.one 4 (.one 5 (.done))))))))],av:=[(1,[36]),(2,[67]),(3,[38]),(5,[57])],sh:=[.a [0,8,3,3,5,4,5,4,0],.n] }
def QAL : Ann:={ av:=[(11,[76])],sh:=[.a [0,8,3,3,5,4,5,4,0],.n] }
def QCh : Ann:={ ot:=[(5,.one 1 (.alt (.one 0 (.one 2 (.one 3 (.one 4 (.one 5 (.done)))))) (.one 2 (.alt (.one 0 (.one 3 (.one 4 (.one 5 (.done))))) (.one 3 (.one 0 (.one 4 (.one 5 (.done)))))))))],av:=[(1,[36]),(2,[67]),(3,[38]),(5,[37])],sh:=[.a [0,8,3,3,5,4,5,4,0],.n] }
def QCK : Ann:={ av:=[(3,[76])],sh:=[.a [0,8,3,3,5,4,5,4,0],.n] }
def QyX : Ann:={ lp:=[(2,⟨[0,1,5],[],[],[]⟩)],rt:=⟨[4],[],[],[]⟩ }
def QBI : Ann:={}
def QAI : Ann:={}
def QyW : Ann:={ nr:=some [.s 32 0],jn:=[(3,(15,8,15))],lp:=[(3,⟨[0,3,4],[],[0,3],[]⟩)] }
def QA3 : Ann:={ ak:=[0,1],av:=[(1,[57])] }
def QCD : Ann:={ ak:=[0],av:=[(1,[57])] }
def Qz5 : Ann:={ nr:=some [.r 0,.s 23 3],ak:=[0],av:=[(3,[57]),(5,[57])],lp:=[(3,⟨[0,3,4],[.s 0 0,.s 3 3],[0,3],[.s 0 0,.s 3 3]⟩)],sh:=[.z 3] }
def QC7 : Ann:={ sh:=[.z 3] }
def QDg : Ann:={ jn:=[(1,(6,7,15))] }
def QDf : Ann:={}
def Qy2 : Ann:={ jn:=[(6,(34,15,34))],lp:=[(4,⟨[0,8,9,10],[],[],[]⟩)],rt:=⟨[2],[],[],[]⟩ }
def Qx5 : Ann:={ jn:=[(6,(51,15,51))],lp:=[(4,⟨[0,8,9,10],[],[],[]⟩)],rt:=⟨[2],[],[],[]⟩ }
def Qwp : Ann:={ jn:=[(6,(59,17,59)),(11,(82,68,82))],lp:=[(4,⟨[0,10,11,12],[],[],[]⟩),(9,⟨[0,4,10,11,12,62,63,64],[.s 4 0],[0,10,11,12],[]⟩)],rt:=⟨[2],[],[],[]⟩ }
def QAg : Ann:={ jn:=[(7,(61,17,61)),(13,(83,73,83))],lp:=[(5,⟨[0,3,10,11,12],[],[],[]⟩)],rt:=⟨[2],[],[],[]⟩ }
def QyM : Ann:={ jn:=[(6,(58,15,58))],lp:=[(4,⟨[0,8,9,10],[],[],[]⟩)],rt:=⟨[2],[],[],[]⟩ }
def Qs9 : Ann:={ ord:=[(7,[0,1,2,3,4,5,6,7,8,9,10,11,12,13,14,15,18,19,20,21,16,17,22,23,24])],jn:=[(7,(54,30,54)),(13,(73,63,73))],lp:=[(5,⟨[1,3,23,24,25],[.s 1 0,.s 3 1],[1,3],[.s 1 0,.s 3 1]⟩),(11,⟨[1,3,57,58,59],[.s 1 0,.s 3 1],[1,3],[.s 1 0,.s 3 1]⟩),(17,⟨[1,75,76,77],[.s 1 0,.s 75 1],[],[]⟩)],rt:=⟨[2],[],[],[]⟩ }
def Qya : Ann:={ ord:=[(7,[0,1,2,3,4,5,6,7,8,9,10,11,12,13,14,15,16,17,18,19,20,21,22,24,26,27,23,25,28,29,30])],jn:=[(7,(56,26,56))],lp:=[(4,⟨[1,14,15,16],[.s 1 0],[],[]⟩)],rt:=⟨[2],[],[],[]⟩ }
def Qr7 : Ann:={ lp:=[(3,⟨[1,3,13,14,15],[.s 1 0],[1,3],[.s 1 0]⟩),(8,⟨[1,3,25,26,27],[.s 1 0],[1,3],[.s 1 0]⟩),(13,⟨[1,3,37,38,39],[.s 1 0],[1,3],[.s 1 0]⟩),(18,⟨[3,49,50,51],[],[3],[]⟩)] }
def QCn : Ann:={}
def Qze : Ann:={ lp:=[(2,⟨[0,1,5],[],[],[]⟩)],rt:=⟨[4],[],[],[]⟩ }
def QBM : Ann:={ ak:=[0],av:=[(4,[116]),(5,[116]),(6,[116]),(7,[116])] }
def QA6 : Ann:={ ord:=[(1,[0,1,2,3,4,6,7,9,10,11,13,14,15,17,18,19,21,22,23,25,26,27,29,30,5,8,12,16,20,24,28,31,32])],eb:=[(1,[5,12,16,20,24,28])],sh:=[.a [0,8,3,3,5,4,5,4,0]] }
def Qyz : Ann:={ lp:=[(4,⟨[0,1,12,13],[],[],[]⟩)],rt:=⟨[4],[],[],[]⟩ }
def QC4 : Ann:={}
def Qzv : Ann:={ lp:=[(4,⟨[0,1,12,13],[],[],[]⟩)],rt:=⟨[4],[],[],[]⟩ }
def Qxz : Ann:={ lp:=[(4,⟨[0,1,12,13],[],[],[]⟩)],rt:=⟨[4],[],[],[]⟩ }
def QyP : Ann:={ lp:=[(4,⟨[0,1,12,13],[],[],[]⟩)],rt:=⟨[4],[],[],[]⟩ }
def Qym : Ann:={ lp:=[(4,⟨[0,1,12,13],[],[],[]⟩)],rt:=⟨[4],[],[],[]⟩ }
def Qys : Ann:={ lp:=[(4,⟨[0,1,12,13],[],[],[]⟩)],rt:=⟨[4],[],[],[]⟩ }
def Qwm : Ann:={ ot:=[(18,.one 1 (.one 2 (.one 5 (.alt (.one 0 (.one 3 (.one 4 (.one 6 (.one 7 (.one 8 (.one 9 (.one 10 (.one 11 (.one 12 (.one 13 (.done)))))))))))) (.one 3 (.one 4 (.alt (.one 0 (.one 6 (.one 7 (.one 8 (.one 9 (.one 10 (.one 11 (.one 12 (.one 13 (.done)))))))))) (.one 6 (.one 0 (.one 7 (.one 8 (.one 9 (.one 10 (.one 11 (.one 12 (.one 13 (.done))))))))))))))))),(20,.one 1 (.alt (.one 0 (.one 2 (.one 3 (.one 4 (.one 5 (.one 6 (.one 7 (.one 8 (.done))))))))) (.one 2 (.alt (.one 0 (.one 3 (.one 4 (.one 5 (.one 6 (.one 7 (.one 8 (.done)))))))) (.one 3 (.one 0 (.one 4 (.one 5 (.one 6 (.one 7 (.one 8 (.done)))))))))))),(22,.one 1 (.alt (.one 0 (.one 2 (.one 3 (.one 4 (.one 5 (.one 6 (.one 7 (.one 8 (.one 9 (.done)))))))))) (.one 2 (.one 0 (.one 3 (.one 4 (.one 5 (.one 6 (.one 7 (.one 8 (.one 9 (.done))))))))))))],nr:=some [.r 0,.g 94 1 8,.g 94 2 3,.g 94 3 3,.g 94 4 5,.g 94 5 4,.g 94 6 5,.g 94 7 4],ak:=[0],av:=[(1,[40,57]),(4,[57]),(6,[123]),(7,[57]),(10,[57]),(11,[57]),(13,[38]),(14,[57]),(18,[57]),(20,[37]),(22,[57])],lp:=[(4,⟨[0,2,3,5],[.s 0 0,.s 2 0,.s 3 0,.c 2 1 8,.c 2 2 3,.c 2 3 3,.c 2 4 5,.c 2 5 4,.c 2 6 5,.c 2 7 4],[0,2,3],[.s 0 0,.s 2 0,.s 3 0,.c 2 1 8,.c 2 2 3,.c 2 3 3,.c 2 4 5,.c 2 5 4,.c 2 6 5,.c 2 7 4]⟩),(8,⟨[0,2,3,6],[.s 0 0,.s 2 0,.s 3 0,.c 2 1 8,.c 2 2 3,.c 2 3 3,.c 2 4 5,.c 2 5 4,.c 2 6 5,.c 2 7 4],[0,2,3],[.s 0 0,.s 2 0,.s 3 0,.c 2 1 8,.c 2 2 3,.c 2 3 3,.c 2 4 5,.c 2 5 4,.c 2 6 5,.c 2 7 4]⟩)],sh:=[.a [0,8,3,3,5,4,5,4,0]] }
def QBY : Ann:={ ak:=[0],av:=[(1,[57,128])] }
def QAr : Ann:={}
def QCg : Ann:={ nr:=some [.r 0,.s 36 2],ak:=[0],av:=[(1,[129]),(4,[57]),(5,[57]),(7,[37]),(9,[37])],sh:=[.z 2] }
def QB4 : Ann:={ ord:=[(1,[0,1,3,4,6,7,9,10,2,12,5,8,11,13,14,15,16,17,18,19]),(2,[0,1,3,4,6,7,2,9,5,8,10,11,12,13,14])],sh:=[.a [0,8,3,3,5,4,5,4,0]] }
def QzL : Ann:={ av:=[(7,[136])],jn:=[(5,(32,17,32))],lp:=[(5,⟨[0,3,6,7],[.s 3 0,.s 6 8],[0,3,6,7],[.s 3 0,.s 6 8]⟩)],sh:=[.z 8,.n] }
def Qyl : Ann:={ av:=[(8,[139])],jn:=[(5,(29,16,29))],lp:=[(5,⟨[0,3,6,7],[.s 3 0,.s 6 3],[0,3,6,7],[.s 3 0,.s 6 3]⟩)],sh:=[.z 3,.n] }
def QCl : Ann:={ jn:=[(3,(32,14,32))],sh:=[.z 3,.n] }
def QDw : Ann:={ ot:=[(5,.one 0 (.one 2 (.alt (.one 1 (.one 3 (.one 4 (.one 5 (.done))))) (.one 3 (.one 1 (.one 4 (.one 5 (.done))))))))],sh:=[.z 5,.n] }
def Qw0 : Ann:={ jn:=[(1,(19,8,19))],sh:=[.a [0,8,3,3,5,4,5,4,0],.n] }
def Qxl : Ann:={ av:=[(7,[145])],jn:=[(2,(24,10,24)),(5,(39,26,39))],lp:=[(5,⟨[0,3,6,7],[.s 3 0,.s 6 5],[0,3,6,7],[.s 3 0,.s 6 5]⟩)],sh:=[.z 5,.n] }
def QCu : Ann:={}
def QCG : Ann:={ jn:=[(3,(24,19,24))] }
def QAT : Ann:={ sh:=[.z 2] }
def QDD : Ann:={}
def QCJ : Ann:={ jn:=[(1,(5,6,19)),(3,(19,20,30))] }
def QCA : Ann:={ jn:=[(3,(22,16,22)),(6,(47,29,47))],sh:=[.z 5,.n] }
def QBf : Ann:={ jn:=[(2,(24,11,24))] }
def Qyv : Ann:={ jn:=[(6,(35,16,35))],lp:=[(4,⟨[1,5,6,10,11,12],[.s 5 0],[5],[.s 5 0]⟩)] }
def QBm : Ann:={ sh:=[.a [0,8,3,3,5,4,5,4,0],.n] }
def QBZ : Ann:={ jn:=[(1,(12,5,12))] }
def QCE : Ann:={ ot:=[(1,.one 0 (.one 2 (.alt (.one 1 (.one 3 (.one 4 (.one 5 (.done))))) (.one 3 (.one 1 (.one 4 (.one 5 (.done))))))))],sh:=[.z 4,.n] }
def QxU : Ann:={ nr:=some [.r 0,.s 57 3],ak:=[0],av:=[(3,[57]),(5,[57]),(9,[57]),(10,[57]),(12,[37]),(14,[37])],lp:=[(3,⟨[0,3,4],[.s 0 0,.s 3 3],[0,3],[.s 0 0,.s 3 3]⟩)],sh:=[.z 3] }
def QCc : Ann:={ jn:=[(1,(12,5,12))] }
def QAF : Ann:={ jn:=[(4,(16,17,26)),(6,(26,27,35)),(8,(35,36,44))] }
def QAP : Ann:={ sh:=[.z 2] }
def QDc : Ann:={}
def Qz1 : Ann:={ lp:=[(3,⟨[1,5,8,9,10],[],[5],[]⟩)] }
def Qz6 : Ann:={ lp:=[(5,⟨[1,5,12,13,14],[],[5],[]⟩)] }
def QBX : Ann:={ jn:=[(1,(2,3,21))] }
def QqO : Ann:={ jn:=[(6,(39,15,39))],lp:=[(4,⟨[0,8,9,10],[],[],[]⟩)],rt:=⟨[2],[],[],[]⟩ }
def QtK : Ann:={}
def Qt0 : Ann:={}
def Qvh : Ann:={}
def QuC : Ann:={ jn:=[(1,(2,3,26))] }
def Qve : Ann:={}
def Qq7 : Ann:={ lp:=[(2,⟨[0,1,7,8],[],[],[]⟩)],rt:=⟨[4],[],[],[]⟩ }
def Qt5 : Ann:={}
def Que : Ann:={ jn:=[(2,(20,11,20))],sh:=[.a [0,8,3,3,5,4,5,4,0],.n] }
def Quu : Ann:={ ot:=[(2,.one 0 (.one 5 (.alt (.one 1 (.alt (.one 2 (.alt (.one 3 (.one 4 (.one 6 (.one 7 (.one 8 (.one 9 (.one 10 (.one 11 (.one 12 (.done)))))))))) (.one 6 (.one 3 (.one 4 (.one 7 (.one 8 (.one 9 (.one 10 (.one 11 (.one 12 (.done)))))))))))) (.one 6 (.one 2 (.one 3 (.one 4 (.one 7 (.one 8 (.one 9 (.one 10 (.one 11 (.one 12 (.done))))))))))))) (.one 6 (.alt (.one 1 (.one 2 (.one 3 (.one 4 (.one 7 (.one 8 (.one 9 (.one 10 (.one 11 (.one 12 (.done))))))))))) (.one 7 (.alt (.one 1 (.one 2 (.one 3 (.one 4 (.one 8 (.one 9 (.one 10 (.one 11 (.one 12 (.done)))))))))) (.one 8 (.one 9 (.one 1 (.one 2 (.one 3 (.one 4 (.one 10 (.one 11 (.one 12 (.done))))))))))))))))),(3,.one 0 (.one 4 (.alt (.one 1 (.alt (.one 2 (.alt (.one 3 (.one 5 (.one 6 (.one 7 (.one 8 (.one 9 (.done))))))) (.one 5 (.one 3 (.one 6 (.one 7 (.one 8 (.one 9 (.done))))))))) (.one 5 (.one 2 (.one 3 (.one 6 (.one 7 (.one 8 (.one 9 (.done)))))))))) (.one 5 (.alt (.one 1 (.one 2 (.one 3 (.one 6 (.one 7 (.one 8 (.one 9 (.done)))))))) (.one 6 (.alt (.one 1 (.one 2 (.one 3 (.one 7 (.one 8 (.one 9 (.done))))))) (.one 7 (.alt (.one 1 (.one 2 (.one 3 (.one 8 (.one 9 (.done)))))) (.one 8 (.one 1 (.one 2 (.one 3 (.one 9 (.done))))))))))))))),(4,.one 0 (.one 1 (.one 5 (.alt (.one 2 (.alt (.one 3 (.alt (.one 4 (.one 6 (.one 7 (.one 8 (.one 9 (.one 10 (.one 11 (.one 12 (.one 13 (.one 14 (.done))))))))))) (.one 6 (.one 4 (.one 7 (.one 8 (.one 9 (.one 10 (.one 11 (.one 12 (.one 13 (.one 14 (.done))))))))))))) (.one 6 (.one 3 (.one 4 (.one 7 (.one 8 (.one 9 (.one 10 (.one 11 (.one 12 (.one 13 (.one 14 (.done)))))))))))))) (.one 6 (.alt (.one 2 (.one 3 (.one 4 (.one 7 (.one 8 (.one 9 (.one 10 (.one 11 (.one 12 (.one 13 (.one 14 (.done)))))))))))) (.one 7 (.alt (.one 2 (.one 3 (.one 4 (.one 8 (.one 9 (.one 10 (.one 11 (.one 12 (.one 13 (.one 14 (.done))))))))))) (.one 8 (.one 2 (.one 3 (.one 4 (.one 9 (.one 10 (.one 11 (.one 12 (.one 13 (.one 14 (.done)))))))))))))))))))],ak:=[0] }
def QrC : Ann:={ ord:=[(5,[0,1,2,3,4,5,6,7,8,9,10,11,13,14,15,16,17,12,18,19,20,21])],eb:=[(5,[18])],lp:=[(3,⟨[0,3,4],[.s 3 3],[3],[.s 3 3]⟩)],sh:=[.z 3] }
def Qqs : Ann:={ lp:=[(4,⟨[1,2,15,16,17],[],[],[]⟩)],rt:=⟨[6],[],[],[]⟩ }
def QuX : Ann:={ jn:=[(1,(4,5,24))] }
def Qse : Ann:={ lp:=[(4,⟨[0,1,12,13],[],[],[]⟩)],rt:=⟨[4],[],[],[]⟩ }
def Quq : Ann:={ ot:=[(5,.one 2 (.one 3 (.one 6 (.alt (.one 0 (.alt (.one 1 (.alt (.one 4 (.one 5 (.alt (.one 7 (.alt (.one 8 (.one 9 (.one 10 (.one 11 (.one 12 (.one 13 (.one 14 (.done)))))))) (.one 12 (.one 8 (.one 9 (.one 10 (.one 11 (.one 13 (.one 14 (.done)))))))))) (.one 12 (.one 7 (.one 8 (.one 9 (.one 10 (.one 11 (.one 13 (.one 14 (.done)))))))))))) (.one 12 (.one 4 (.one 5 (.one 7 (.one 8 (.one 9 (.one 10 (.one 11 (.one 13 (.one 14 (.done))))))))))))) (.alt (.one 4 (.one 5 (.alt (.one 1 (.alt (.one 7 (.alt (.one 8 (.one 9 (.one 10 (.one 11 (.one 12 (.one 13 (.one 14 (.done)))))))) (.one 12 (.one 8 (.one 9 (.one 10 (.one 11 (.one 13 (.one 14 (.done)))))))))) (.one 12 (.one 7 (.one 8 (.one 9 (.one 10 (.one 11 (.one 13 (.one 14 (.done))))))))))) (.alt (.one 7 (.one 1 (.alt (.one 8 (.one 9 (.one 10 (.one 11 (.one 12 (.one 13 (.one 14 (.done)))))))) (.one 12 (.one 8 (.one 9 (.one 10 (.one 11 (.one 13 (.one 14 (.done))))))))))) (.one 12 (.alt (.one 1 (.one 7 (.one 8 (.one 9 (.one 10 (.one 11 (.one 13 (.one 14 (.done))))))))) (.one 7 (.one 1 (.one 8 (.one 9 (.one 10 (.one 11 (.one 13 (.one 14 (.done))))))))))))))) (.one 12 (.alt (.one 1 (.one 4 (.one 5 (.one 7 (.one 8 (.one 9 (.one 10 (.one 11 (.one 13 (.one 14 (.done))))))))))) (.one 4 (.one 5 (.alt (.one 1 (.one 7 (.one 8 (.one 9 (.one 10 (.one 11 (.one 13 (.one 14 (.done))))))))) (.one 7 (.one 1 (.one 8 (.one 9 (.one 10 (.one 11 (.one 13 (.one 14 (.done))))))))))))))))) (.alt (.one 1 (.alt (.one 0 (.alt (.one 4 (.one 5 (.alt (.one 7 (.alt (.one 8 (.one 9 (.one 10 (.one 11 (.one 12 (.one 13 (.one 14 (.done)))))))) (.one 12 (.one 8 (.one 9 (.one 10 (.one 11 (.one 13 (.one 14 (.done)))))))))) (.one 12 (.one 7 (.one 8 (.one 9 (.one 10 (.one 11 (.one 13 (.one 14 (.done)))))))))))) (.one 12 (.one 4 (.one 5 (.one 7 (.one 8 (.one 9 (.one 10 (.one 11 (.one 13 (.one 14 (.done))))))))))))) (.alt (.one 4 (.one 5 (.alt (.one 0 (.alt (.one 7 (.alt (.one 8 (.one 9 (.one 10 (.one 11 (.one 12 (.one 13 (.one 14 (.done)))))))) (.one 12 (.one 8 (.one 9 (.one 10 (.one 11 (.one 13 (.one 14 (.done)))))))))) (.one 12 (.one 7 (.one 8 (.one 9 (.one 10 (.one 11 (.one 13 (.one 14 (.done))))))))))) (.alt (.one 7 (.one 0 (.alt (.one 8 (.one 9 (.one 10 (.one 11 (.one 12 (.one 13 (.one 14 (.done)))))))) (.one 12 (.one 8 (.one 9 (.one 10 (.one 11 (.one 13 (.one 14 (.done))))))))))) (.one 12 (.alt (.one 0 (.one 7 (.one 8 (.one 9 (.one 10 (.one 11 (.one 13 (.one 14 (.done))))))))) (.one 7 (.one 0 (.one 8 (.one 9 (.one 10 (.one 11 (.one 13 (.one 14 (.done))))))))))))))) (.one 12 (.alt (.one 0 (.one 4 (.one 5 (.one 7 (.one 8 (.one 9 (.one 10 (.one 11 (.one 13 (.one 14 (.done))))))))))) (.one 4 (.one 5 (.alt (.one 0 (.one 7 (.one 8 (.one 9 (.one 10 (.one 11 (.one 13 (.one 14 (.done))))))))) (.one 7 (.one 0 (.one 8 (.one 9 (.one 10 (.one 11 (.one 13 (.one 14 (.done))))))))))))))))) (.alt (.one 4 (.one 5 (.alt (.one 0 (.alt (.one 1 (.alt (.one 7 (.alt (.one 8 (.one 9 (.one 10 (.one 11 (.one 12 (.one 13 (.one 14 (.done)))))))) (.one 12 (.one 8 (.one 9 (.one 10 (.one 11 (.one 13 (.one 14 (.done)))))))))) (.one 12 (.one 7 (.one 8 (.one 9 (.one 10 (.one 11 (.one 13 (.one 14 (.done))))))))))) (.alt (.one 7 (.one 1 (.alt (.one 8 (.one 9 (.one 10 (.one 11 (.one 12 (.one 13 (.one 14 (.done)))))))) (.one 12 (.one 8 (.one 9 (.one 10 (.one 11 (.one 13 (.one 14 (.done))))))))))) (.one 12 (.alt (.one 1 (.one 7 (.one 8 (.one 9 (.one 10 (.one 11 (.one 13 (.one 14 (.done))))))))) (.one 7 (.one 1 (.one 8 (.one 9 (.one 10 (.one 11 (.one 13 (.one 14 (.done)))))))))))))) (.alt (.one 1 (.alt (.one 0 (.alt (.one 7 (.alt (.one 8 (.one 9 (.one 10 (.one 11 (.one 12 (.one 13 (.one 14 (.done)))))))) (.one 12 (.one 8 (.one 9 (.one 10 (.one 11 (.one 13 (.one 14 (.done)))))))))) (.one 12 (.one 7 (.one 8 (.one 9 (.one 10 (.one 11 (.one 13 (.one 14 (.done))))))))))) (.alt (.one 7 (.one 0 (.alt (.one 8 (.one 9 (.one 10 (.one 11 (.one 12 (.one 13 (.one 14 (.done)))))))) (.one 12 (.one 8 (.one 9 (.one 10 (.one 11 (.one 13 (.one 14 (.done))))))))))) (.one 12 (.alt (.one 0 (.one 7 (.one 8 (.one 9 (.one 10 (.one 11 (.one 13 (.one 14 (.done))))))))) (.one 7 (.one 0 (.one 8 (.one 9 (.one 10 (.one 11 (.one 13 (.one 14 (.done)))))))))))))) (.alt (.one 7 (.one 0 (.one 1 (.alt (.one 8 (.one 9 (.one 10 (.one 11 (.one 12 (.one 13 (.one 14 (.done)))))))) (.one 12 (.one 8 (.one 9 (.one 10 (.one 11 (.one 13 (.one 14 (.done)))))))))))) (.one 12 (.alt (.one 0 (.alt (.one 1 (.one 7 (.one 8 (.one 9 (.one 10 (.one 11 (.one 13 (.one 14 (.done))))))))) (.one 7 (.one 1 (.one 8 (.one 9 (.one 10 (.one 11 (.one 13 (.one 14 (.done))))))))))) (.alt (.one 1 (.alt (.one 0 (.one 7 (.one 8 (.one 9 (.one 10 (.one 11 (.one 13 (.one 14 (.done))))))))) (.one 7 (.one 0 (.one 8 (.one 9 (.one 10 (.one 11 (.one 13 (.one 14 (.done))))))))))) (.one 7 (.one 0 (.one 1 (.one 8 (.one 9 (.one 10 (.one 11 (.one 13 (.one 14 (.done)))))))))))))))))) (.one 12 (.alt (.one 0 (.alt (.one 1 (.one 4 (.one 5 (.one 7 (.one 8 (.one 9 (.one 10 (.one 11 (.one 13 (.one 14 (.done))))))))))) (.one 4 (.one 5 (.alt (.one 1 (.one 7 (.one 8 (.one 9 (.one 10 (.one 11 (.one 13 (.one 14 (.done))))))))) (.one 7 (.one 1 (.one 8 (.one 9 (.one 10 (.one 11 (.one 13 (.one 14 (.done)))))))))))))) (.alt (.one 1 (.alt (.one 0 (.one 4 (.one 5 (.one 7 (.one 8 (.one 9 (.one 10 (.one 11 (.one 13 (.one 14 (.done))))))))))) (.one 4 (.one 5 (.alt (.one 0 (.one 7 (.one 8 (.one 9 (.one 10 (.one 11 (.one 13 (.one 14 (.done))))))))) (.one 7 (.one 0 (.one 8 (.one 9 (.one 10 (.one 11 (.one 13 (.one 14 (.done)))))))))))))) (.one 4 (.one 5 (.alt (.one 0 (.alt (.one 1 (.one 7 (.one 8 (.one 9 (.one 10 (.one 11 (.one 13 (.one 14 (.done))))))))) (.one 7 (.one 1 (.one 8 (.one 9 (.one 10 (.one 11 (.one 13 (.one 14 (.done))))))))))) (.alt (.one 1 (.alt (.one 0 (.one 7 (.one 8 (.one 9 (.one 10 (.one 11 (.one 13 (.one 14 (.done))))))))) (.one 7 (.one 0 (.one 8 (.one 9 (.one 10 (.one 11 (.one 13 (.one 14 (.done))))))))))) (.one 7 (.one 0 (.one 1 (.one 8 (.one 9 (.one 10 (.one 11 (.one 13 (.one 14 (.done)))))))))))))))))))))))],nr:=some [.r 0,.r 1,.r 2,.r 3,.r 4,.r 5,.r 6,.r 7,.g 42 1 8,.g 42 2 3,.g 42 3 3,.g 42 4 5,.g 42 5 4,.g 42 6 5,.g 42 7 4],ak:=[0,1,2,3,4,5,6,7],av:=[(1,[68]),(2,[57]),(4,[37]),(5,[57,188])],sh:=[.a [0,8,3,3,5,4,5,4,0]] }
def QqV : Ann:={ ot:=[(7,.one 0 (.one 1 (.one 2 (.one 3 (.one 4 (.one 6 (.one 7 (.one 12 (.alt (.one 5 (.alt (.one 8 (.alt (.one 9 (.one 10 (.one 11 (.one 13 (.one 14 (.one 15 (.one 16 (.done)))))))) (.one 10 (.alt (.one 9 (.one 11 (.one 13 (.one 14 (.one 15 (.one 16 (.done))))))) (.one 11 (.one 13 (.one 9 (.one 14 (.one 15 (.one 16 (.done))))))))))) (.one 10 (.alt (.one 8 (.alt (.one 9 (.one 11 (.one 13 (.one 14 (.one 15 (.one 16 (.done))))))) (.one 11 (.one 13 (.one 9 (.one 14 (.one 15 (.one 16 (.done))))))))) (.one 11 (.one 13 (.one 8 (.one 9 (.one 14 (.one 15 (.one 16 (.done)))))))))))) (.alt (.one 8 (.alt (.one 5 (.alt (.one 9 (.one 10 (.one 11 (.one 13 (.one 14 (.one 15 (.one 16 (.done)))))))) (.one 10 (.alt (.one 9 (.one 11 (.one 13 (.one 14 (.one 15 (.one 16 (.done))))))) (.one 11 (.one 13 (.one 9 (.one 14 (.one 15 (.one 16 (.done))))))))))) (.one 10 (.alt (.one 5 (.alt (.one 9 (.one 11 (.one 13 (.one 14 (.one 15 (.one 16 (.done))))))) (.one 11 (.one 13 (.one 9 (.one 14 (.one 15 (.one 16 (.done))))))))) (.one 11 (.one 13 (.one 5 (.one 9 (.one 14 (.one 15 (.one 16 (.done)))))))))))) (.one 10 (.alt (.one 5 (.alt (.one 8 (.alt (.one 9 (.one 11 (.one 13 (.one 14 (.one 15 (.one 16 (.done))))))) (.one 11 (.one 13 (.one 9 (.one 14 (.one 15 (.one 16 (.done))))))))) (.one 11 (.one 13 (.one 8 (.one 9 (.one 14 (.one 15 (.one 16 (.done)))))))))) (.alt (.one 8 (.alt (.one 5 (.alt (.one 9 (.one 11 (.one 13 (.one 14 (.one 15 (.one 16 (.done))))))) (.one 11 (.one 13 (.one 9 (.one 14 (.one 15 (.one 16 (.done))))))))) (.one 11 (.one 13 (.one 5 (.one 9 (.one 14 (.one 15 (.one 16 (.done)))))))))) (.one 11 (.one 13 (.alt (.one 5 (.one 8 (.one 9 (.one 14 (.one 15 (.one 16 (.done))))))) (.one 8 (.one 5 (.one 9 (.one 14 (.one 15 (.one 16 (.done)))))))))))))))))))))))],eb:=[(7,[47])],av:=[(8,[191])],jn:=[(5,(44,30,44))],lp:=[(5,⟨[1,3,4,8,10,12,13],[.s 4 0,.s 8 0,.s 10 0,.c 2 1 8,.c 2 2 3,.c 2 3 3,.c 2 4 5,.c 2 5 4,.c 2 6 5,.c 2 7 4],[1,3,4,8,10,12,13],[.s 4 0,.s 8 0,.s 10 0,.c 2 1 8,.c 2 2 3,.c 2 3 3,.c 2 4 5,.c 2 5 4,.c 2 6 5,.c 2 7 4]⟩)],sh:=[.a [0,8,3,3,5,4,5,4,0],.n] }
def Qub : Ann:={ av:=[(5,[191])],jn:=[(2,(17,9,17))],sh:=[.a [0,8,3,3,5,4,5,4,0],.n] }
def Qu7 : Ann:={ ot:=[(9,.one 0 (.one 1 (.one 2 (.one 3 (.one 4 (.one 5 (.one 6 (.one 7 (.one 8 (.one 9 (.one 10 (.one 11 (.one 12 (.one 13 (.one 14 (.one 15 (.one 16 (.one 17 (.alt (.one 18 (.alt (.one 19 (.one 20 (.one 21 (.one 22 (.one 23 (.one 24 (.one 25 (.done)))))))) (.one 23 (.one 19 (.one 20 (.one 21 (.one 22 (.one 24 (.one 25 (.done)))))))))) (.one 23 (.one 18 (.one 19 (.one 20 (.one 21 (.one 22 (.one 24 (.one 25 (.done))))))))))))))))))))))))))))],av:=[(9,[198]),(10,[191])],jn:=[(3,(33,23,33))],sh:=[.a [0,8,3,3,5,4,5,4,0],.n] }
def Qt9 : Ann:={ av:=[(13,[191])],jn:=[(3,(34,19,34))],sh:=[.a [0,8,3,3,5,4,5,4,0],.n] }
def QuP : Ann:={ ak:=[0],av:=[(1,[57])] }
def QrY : Ann:={ nr:=some [.r 0,.s 24 2],ak:=[0],av:=[(2,[57]),(5,[57])],lp:=[(3,⟨[0,3,4],[.s 0 0,.s 3 2],[0,3],[.s 0 0,.s 3 2]⟩)],sh:=[.z 2] }
def QtM : Ann:={ sh:=[.z 8] }
def QqI : Ann:={ lp:=[(3,⟨[3,7,8,9],[.s 3 3],[3],[.s 3 3]⟩)],sh:=[.z 3] }
def Qux : Ann:={ sh:=[.z 5] }
def QtW : Ann:={ sh:=[.z 4] }
def Qvk : Ann:={ sh:=[.z 5] }
def QvE : Ann:={ sh:=[.z 4] }
def QtU : Ann:={}
def QtV : Ann:={ sh:=[.z 2] }
def Qr1 : Ann:={ jn:=[(5,(37,15,37))],lp:=[(3,⟨[0,1,5,8,9,10],[],[5],[]⟩)] }
def Quj : Ann:={ jn:=[(1,(2,3,26))] }
def Qu3 : Ann:={}
def Qqg : Ann:={}
def Qvm : Ann:={ jn:=[(1,(3,4,16))] }
def QjQ : Ann:={ lp:=[(2,⟨[0,1,7,8],[],[],[]⟩)],rt:=⟨[4],[],[],[]⟩ }
def Qu0 : Ann:={}
def QqY : Ann:={ lp:=[(2,⟨[0,1,5],[],[],[]⟩)],rt:=⟨[4],[],[],[]⟩ }
def Qqf : Ann:={ lp:=[(2,⟨[1,2,4,6],[.s 2 0,.s 4 0],[4],[.s 4 0]⟩)],rt:=⟨[4,5],[.s 4 0],[],[]⟩ }
def Qui : Ann:={ sh:=[.z 2] }
def QqF : Ann:={ lp:=[(2,⟨[0,1,5],[],[],[]⟩)],rt:=⟨[4],[],[],[]⟩ }
def QtZ : Ann:={}
def Qvv : Ann:={}
def Qry : Ann:={ lp:=[(2,⟨[1,7,8,9],[],[],[]⟩)],rt:=⟨[4],[],[],[]⟩ }
def Qut : Ann:={}
def Qu6 : Ann:={ jn:=[(3,(19,13,19))],sh:=[.z 3,.n] }
def Qvq : Ann:={}
def QqD : Ann:={ jn:=[(6,(24,15,24))],lp:=[(4,⟨[0,8,9,10],[],[],[]⟩)],rt:=⟨[2],[],[],[]⟩ }
def Qvi : Ann:={ ac:=[(2,0)],sh:=[.z 3] }
def Qt1 : Ann:={ jn:=[(1,(4,5,13))] }
def Qvu : Ann:={ jn:=[(1,(3,4,14))] }
def Qm4 : Ann:={ jn:=[(2,(23,15,23))],lp:=[(6,⟨[0,1,5,6,25,26,27],[.s 5 1],[0,1,5,6],[.s 5 1]⟩),(16,⟨[0,5,6,9,43,44,45],[.s 5 1],[5,9],[.s 5 1]⟩),(23,⟨[5,9,13],[.s 5 1],[5],[.s 5 1]⟩)],rt:=⟨[4],[.s 4 1],[],[]⟩,sh:=[.z 1] }
def QqE : Ann:={ jn:=[(3,(34,16,34))],lp:=[(6,⟨[3,6,7,8],[.s 3 0,.s 6 3],[6],[.s 6 3]⟩)],sh:=[.z 3,.n] }
def Qp3 : Ann:={ lp:=[(3,⟨[3,6,7,8],[],[3],[]⟩)] }
def Qqk : Ann:={ lp:=[(2,⟨[0,1,7,8],[],[],[]⟩)],rt:=⟨[4],[],[],[]⟩ }
def Qq8 : Ann:={ lp:=[(2,⟨[0,1,7,8],[],[],[]⟩)],rt:=⟨[4],[],[],[]⟩ }
def Qu8 : Ann:={}
def Qvt : Ann:={ jn:=[(1,(48,3,48)),(3,(86,49,86)),(5,(2,87,93))] }
def QrF : Ann:={ lp:=[(3,⟨[0,3,4],[],[3],[]⟩)] }
def QvF : Ann:={ ot:=[(1,.one 1 (.alt (.one 0 (.alt (.one 2 (.one 3 (.one 4 (.one 5 (.one 6 (.done)))))) (.one 3 (.alt (.one 2 (.one 4 (.one 5 (.one 6 (.done))))) (.one 4 (.one 2 (.one 5 (.one 6 (.done))))))))) (.one 3 (.alt (.one 0 (.alt (.one 2 (.one 4 (.one 5 (.one 6 (.done))))) (.one 4 (.one 2 (.one 5 (.one 6 (.done))))))) (.one 4 (.one 0 (.one 2 (.one 5 (.one 6 (.done))))))))))],sh:=[.z 4,.n] }
def QuZ : Ann:={ nr:=some [.r 0,.g 20 1 2],ak:=[0],av:=[(1,[129]),(3,[57]),(4,[57])],sh:=[.a [0,2,0]] }
def Qu1 : Ann:={ av:=[(10,[191])],sh:=[.a [0,8,3,3,5,4,5,4,0],.n] }
def Qre : Ann:={ ot:=[(9,.one 1 (.one 2 (.one 3 (.one 8 (.one 9 (.one 10 (.alt (.one 0 (.alt (.one 4 (.one 5 (.one 6 (.one 7 (.one 11 (.one 12 (.done))))))) (.one 5 (.alt (.one 4 (.one 6 (.one 7 (.one 11 (.one 12 (.done)))))) (.one 6 (.one 4 (.one 7 (.one 11 (.one 12 (.done)))))))))) (.one 5 (.alt (.one 0 (.alt (.one 4 (.one 6 (.one 7 (.one 11 (.one 12 (.done)))))) (.one 6 (.one 4 (.one 7 (.one 11 (.one 12 (.done)))))))) (.one 6 (.one 0 (.one 4 (.one 7 (.one 11 (.one 12 (.done))))))))))))))))],jn:=[(6,(7,19,40)),(10,(67,62,67))],lp:=[(4,⟨[0,3,6,7,8],[.s 3 0],[0,3,6,7],[.s 3 0]⟩)],sh:=[.z 5,.n] }
def Qvn : Ann:={ jn:=[(1,(19,8,19))],sh:=[.a [0,8,3,3,5,4,5,4,0],.n] }
def Qr0 : Ann:={ jn:=[(4,(22,12,22))],lp:=[(2,⟨[0,1,5],[],[],[]⟩)],rt:=⟨[4],[],[],[]⟩ }
def Quk : Ann:={ jn:=[(1,(6,7,15))] }
def QrU : Ann:={ jn:=[(5,(44,13,44))],lp:=[(3,⟨[0,1,5,6],[],[0,5],[]⟩)] }
def Qqx : Ann:={ lp:=[(2,⟨[0,1,5],[],[],[]⟩)],rt:=⟨[4],[],[],[]⟩ }
def QuF : Ann:={ sh:=[.a [0,8,3,3,5,4,5,4,0],.n] }
def QuV : Ann:={ jn:=[(3,(24,18,24)),(6,(11,31,49)),(8,(60,54,60))],sh:=[.z 5,.n] }
def QuH : Ann:={ sh:=[.a [0,8,3,3,5,4,5,4,0],.n] }
def QuN : Ann:={ jn:=[(1,(12,5,12))] }
def QuK : Ann:={}
def Qt2 : Ann:={ jn:=[(1,(5,6,19)),(3,(19,20,30))] }
def Qrz : Ann:={ ot:=[(7,.one 1 (.one 2 (.one 3 (.one 8 (.alt (.one 0 (.alt (.one 4 (.one 5 (.one 6 (.one 7 (.one 9 (.one 10 (.done))))))) (.one 5 (.alt (.one 4 (.one 6 (.one 7 (.one 9 (.one 10 (.done)))))) (.one 6 (.one 4 (.one 7 (.one 9 (.one 10 (.done)))))))))) (.one 5 (.alt (.one 0 (.alt (.one 4 (.one 6 (.one 7 (.one 9 (.one 10 (.done)))))) (.one 6 (.one 4 (.one 7 (.one 9 (.one 10 (.done)))))))) (.one 6 (.one 0 (.one 4 (.one 7 (.one 9 (.one 10 (.done))))))))))))))],jn:=[(2,(22,9,22)),(5,(39,28,39))],lp:=[(2,⟨[0,3,6],[.s 3 0],[0,3,6],[.s 3 0]⟩)],sh:=[.z 2,.n] }
def Qrh : Ann:={ lp:=[(2,⟨[0,1,7,8],[],[],[]⟩)],rt:=⟨[4],[],[],[]⟩ }
def QvG : Ann:={}
def QrL : Ann:={ lp:=[(2,⟨[0,1,7,8],[],[],[]⟩)],rt:=⟨[4],[],[],[]⟩ }
def Qrw : Ann:={ lp:=[(2,⟨[0,1,5],[],[],[]⟩)],rt:=⟨[4],[],[],[]⟩ }
def QtD : Ann:={ jn:=[(1,(19,7,19))] }
def QvH : Ann:={ jn:=[(1,(19,7,19))] }
def QqP : Ann:={ lp:=[(3,⟨[0,3,4],[],[3],[]⟩)] }
def Qum : Ann:={ jn:=[(1,(2,3,11))] }
def QtH : Ann:={}
def QvB : Ann:={}
def QtN : Ann:={ sh:=[.z 3] }
def Qvb : Ann:={ ak:=[0],ac:=[(0,0)] }
def QuO : Ann:={}
def Qvr : Ann:={}
def Qua : Ann:={}
def Qqj : Ann:={ jn:=[(5,(44,13,44))],lp:=[(3,⟨[0,1,5,6],[],[0,5],[]⟩)] }
def Qn7 : Ann:={ jn:=[(4,(53,11,53)),(9,(77,59,77))],lp:=[(2,⟨[0,3],[],[0],[]⟩),(7,⟨[0,3,4],[],[0,3],[]⟩)],rt:=⟨[2],[],[],[]⟩ }
def Quc : Ann:={ jn:=[(1,(2,3,26))] }
def QtJ : Ann:={}
def Qt4 : Ann:={}
def Qr4 : Ann:={ jn:=[(4,(35,10,35))],lp:=[(2,⟨[0,3],[],[0],[]⟩)],rt:=⟨[2],[],[],[]⟩ }
def QqZ : Ann:={ jn:=[(4,(61,10,61))],lp:=[(2,⟨[0,3],[],[0],[]⟩)],rt:=⟨[2],[],[],[]⟩ }
def QoY : Ann:={ jn:=[(5,(58,16,58)),(10,(84,64,84))],lp:=[(2,⟨[0,3],[],[0],[]⟩),(8,⟨[0,3,4,5],[.s 4 0],[0,3],[]⟩)],rt:=⟨[2],[],[],[]⟩ }
def Qqe : Ann:={ jn:=[(3,(15,7,15)),(7,(67,25,67)),(10,(96,73,96))],lp:=[(3,⟨[0,3,4],[],[0],[]⟩)],rt:=⟨[2],[],[],[]⟩ }
def Qrd : Ann:={ jn:=[(5,(58,15,58))],lp:=[(2,⟨[0,3],[],[0],[]⟩)],rt:=⟨[2],[],[],[]⟩ }
def Qnx : Ann:={ ord:=[(13,[0,1,2,3,4,5,6,7,8,9,10,11,14,15,12,13,16,17,18,19,20,21,22,23,24,25,26,27,28,29])],jn:=[(13,(77,48,77)),(18,(103,85,103))],lp:=[(5,⟨[1,3,4],[.s 1 0,.s 3 1],[1,3],[.s 1 0,.s 3 1]⟩),(10,⟨[1,3,5],[.s 1 0,.s 3 1],[1],[.s 1 0]⟩),(16,⟨[1,7],[.s 1 0],[],[]⟩)],rt:=⟨[2],[],[],[]⟩ }
def QrM : Ann:={ ord:=[(8,[0,1,2,3,4,5,6,7,8,9,10,11,12,13,14,15,16,17,18,19,20,21,22,23,24,25,26,27,28,29,30,32,33,34,35,36,38,31,37,39,40,41,42,43,44,45,46,47])],jn:=[(8,(77,30,77))],lp:=[(4,⟨[1,3],[.s 1 0],[],[]⟩)],rt:=⟨[2],[],[],[]⟩ }
def Quz : Ann:={ ot:=[(5,.one 1 (.alt (.one 0 (.alt (.one 2 (.one 3 (.one 4 (.one 5 (.one 6 (.done)))))) (.one 3 (.alt (.one 2 (.one 4 (.one 5 (.one 6 (.done))))) (.one 4 (.one 2 (.one 5 (.one 6 (.done))))))))) (.one 3 (.alt (.one 0 (.alt (.one 2 (.one 4 (.one 5 (.one 6 (.done))))) (.one 4 (.one 2 (.one 5 (.one 6 (.done))))))) (.one 4 (.one 0 (.one 2 (.one 5 (.one 6 (.done))))))))))],sh:=[.z 5,.n] }
def QrX : Ann:={ ot:=[(4,.one 1 (.one 2 (.one 3 (.one 8 (.one 9 (.one 10 (.alt (.one 0 (.alt (.one 4 (.one 5 (.one 6 (.one 7 (.one 11 (.one 12 (.done))))))) (.one 5 (.alt (.one 4 (.one 6 (.one 7 (.one 11 (.one 12 (.done)))))) (.one 6 (.one 4 (.one 7 (.one 11 (.one 12 (.done)))))))))) (.one 5 (.alt (.one 0 (.alt (.one 4 (.one 6 (.one 7 (.one 11 (.one 12 (.done)))))) (.one 6 (.one 4 (.one 7 (.one 11 (.one 12 (.done)))))))) (.one 6 (.one 0 (.one 4 (.one 7 (.one 11 (.one 12 (.done))))))))))))))))],jn:=[(2,(23,8,23))],lp:=[(2,⟨[0,3,6],[.s 3 0],[0,3,6],[.s 3 0]⟩)],sh:=[.z 8,.n] }
def QqR : Ann:={ ot:=[(4,.one 0 (.one 1 (.one 2 (.one 4 (.one 8 (.one 9 (.one 10 (.alt (.one 3 (.one 5 (.one 6 (.one 7 (.one 11 (.one 12 (.one 13 (.done)))))))) (.one 5 (.one 3 (.one 6 (.one 7 (.one 11 (.one 12 (.one 13 (.done))))))))))))))))],jn:=[(2,(21,8,21))],lp:=[(2,⟨[0,3,6],[.s 3 0],[0,3,6],[.s 3 0]⟩)],sh:=[.z 3,.n] }
def Qr3 : Ann:={ jn:=[(3,(21,15,21))],lp:=[(6,⟨[6,7,8],[.s 6 3],[6],[.s 6 3]⟩)],sh:=[.z 3,.n] }
def QvD : Ann:={ jn:=[(1,(2,3,26))] }
def QrW : Ann:={ jn:=[(4,(43,10,43))],lp:=[(2,⟨[0,3],[],[0],[]⟩)],rt:=⟨[2],[],[],[]⟩ }
def Qvf : Ann:={}
def QuB : Ann:={}
def QrT : Ann:={ lp:=[(2,⟨[0,1,7,8],[],[],[]⟩)],rt:=⟨[4],[],[],[]⟩ }
def QmJ : Ann:={ ak:=[0],ac:=[(3,0),(6,0)],lp:=[(2,⟨[0,1,2,6,7,8],[.s 0 3],[0,1,2,6,7],[.s 0 3]⟩),(7,⟨[0,1,2,6],[.s 0 3],[0],[.s 0 3]⟩),(9,⟨[0,1,2,6,7,8],[.s 0 3],[0,1,2,6,7],[.s 0 3]⟩)] }
def Quy : Ann:={}
def QvI : Ann:={}
def Quv : Ann:={ jn:=[(1,(2,3,21))] }
def QuD : Ann:={}
def Qq0 : Ann:={ lp:=[(3,⟨[0,1,2,7,8],[],[7],[]⟩)] }
def QqN : Ann:={ jn:=[(3,(16,9,16)),(6,(42,28,42))],lp:=[(3,⟨[0,1,5,6],[.s 5 1],[5],[.s 5 1]⟩)],sh:=[.z 1] }
def Qrk : Ann:={ lp:=[(2,⟨[0,1,5],[],[],[]⟩)],rt:=⟨[4],[],[],[]⟩ }
def QoG : Ann:={ ak:=[0],jn:=[(4,(34,18,34))],lp:=[(1,⟨[0,1,2,3,8],[.s 0 3],[0],[.s 0 3]⟩),(4,⟨[0,1,2,3,8,9],[.s 0 3],[0,1,2,3,8],[.s 0 3]⟩)] }
def QrN : Ann:={ ot:=[(6,.one 1 (.one 2 (.one 3 (.one 5 (.one 8 (.one 9 (.one 10 (.alt (.one 0 (.alt (.one 4 (.one 6 (.one 7 (.one 11 (.one 12 (.done)))))) (.one 6 (.one 4 (.one 7 (.one 11 (.one 12 (.done)))))))) (.one 6 (.one 0 (.one 4 (.one 7 (.one 11 (.one 12 (.done)))))))))))))))],jn:=[(2,(17,6,17)),(4,(31,20,31))],lp:=[(2,⟨[0,1,5],[],[0,1,5],[]⟩)],sh:=[.z 1] }
noncomputable def T : Tld:={ P:=Tryz.prog,ann:=[(4,An4),(5,An5),(8,An8),(10,QBz),(11,QAc),(14,QyO),(18,QDv),(19,QCN),(20,QDt),(21,QCx),(22,QCq),(23,QCa),(24,QB6),(25,QAx),(26,QBW),(27,QBu),(28,QBJ),(29,QDB),(30,QAL),(31,QCh),(32,QCK),(33,QyX),(34,QBI),(35,QAI),(36,QyW),(37,QA3),(38,QCD),(40,Qz5),(41,QC7),(42,QDg),(43,QDf),(44,Qy2),(45,Qx5),(46,Qwp),(47,QAg),(48,QyM),(49,Qs9),(50,Qya),(51,Qr7),(52,QCn),(54,Qze),(57,QBM),(59,QA6),(60,Qyz),(61,QC4),(62,Qzv),(63,Qxz),(64,QyP),(65,Qym),(66,Qys),(67,Qwm),(68,QBY),(69,QAr),(70,QCg),(71,QB4),(72,QzL),(73,Qyl),(74,QCl),(75,QDw),(76,Qw0),(77,Qxl),(79,QCu),(80,QCG),(81,QAT),(82,QDD),(83,QCJ),(84,QCA),(85,QBf),(86,Qyv),(87,QBm),(88,QBZ),(89,QCE),(90,QxU),(91,QCc),(92,QAF),(93,QAP),(94,QDc),(95,Qz1),(96,Qz6),(99,QBX),(100,QqO),(101,QtK),(102,Qt0),(103,Qvh),(104,QuC),(105,Qve),(106,Qq7),(107,Qt5),(110,Que),(116,Quu),(119,QrC),(120,Qqs),(121,QuX),(122,Qse),(123,Quq),(124,QqV),(125,Qub),(126,Qu7),(127,Qt9),(128,QuP),(129,QrY),(130,QtM),(131,QqI),(132,Qux),(133,QtW),(134,Qvk),(135,QvE),(137,QtU),(138,QtV),(140,Qr1),(141,Quj),(142,Qu3),(143,Qqg),(144,Qvm),(148,QjQ),(149,Qu0),(150,QqY),(151,Qqf),(152,Qui),(153,QqF),(154,QtZ),(155,Qvv),(156,Qry),(157,Qut),(158,Qu6),(159,Qvq),(160,QqD),(161,Qvi),(162,Qt1),(163,Qvu),(164,Qm4),(165,QqE),(166,Qp3),(167,Qqk),(168,Qq8),(169,Qu8),(181,Qvt),(182,QrF),(187,QvF),(188,QuZ),(189,Qu1),(190,Qre),(191,Qvn),(192,Qr0),(193,Quk),(194,QrU),(195,Qqx),(196,QuF),(197,QuV),(198,QuH),(199,QuN),(200,QuK),(201,Qt2),(202,Qrz),(205,Qrh),(206,QvG),(209,QrL),(213,Qrw),(214,QtD),(215,QvH),(216,QqP),(217,Qum),(218,QtH),(219,QvB),(220,QtN),(221,Qvb),(222,QuO),(223,Qvr),(224,Qua),(225,Qqj),(226,Qn7),(227,Quc),(228,QtJ),(234,Qt4),(235,Qr4),(236,QqZ),(237,QoY),(238,Qqe),(239,Qrd),(240,Qnx),(241,QrM),(242,Quz),(244,QrX),(245,QqR),(246,Qr3),(247,QvD),(248,QrW),(249,Qvf),(254,QuB),(255,QrT),(256,QmJ),(257,Quy),(258,QvI),(260,Quv),(261,QuD),(262,Qq0),(263,QqN),(264,Qrk),(268,QoG),(270,QrN)],xt:=fun _ _=>none,st:=fun g=>Nat.beq g 55,qt:=fun _=>false,pz:=[(59,[.a [0,8,3,3,5,4,5,4,0]]),(142,[.z 1,.n])],vt:=fun g=>Nat.beq g 76 || Nat.beq g 78 || Nat.beq g 136 || Nat.beq g 139 || Nat.beq g 145 || Nat.beq g 191 || Nat.beq g 198,mt:=mt }
theorem TP : T.P = Tryz.prog:=_root_.id rfl
theorem TZ : T.pz = [(59,[.a [0,8,3,3,5,4,5,4,0]]),(142,[.z 1,.n])]:=_root_.id rfl
theorem QDs (n : Nat) (args : List AV) : CP T n 269 args = none:=by
 cases n with
 | zero=>rfl
 | succ n=>rw [QUD T n 269 args (by kernel_rfl)]; rfl
theorem QU9 : decide ((0 : Int) ≤ 33) = true:=_root_.id rfl
theorem QUo : decide ((0 : Int) ≤ 47) = true:=_root_.id rfl
def eY:=aI evT <| aI QQU <| aI @QUV <| aI @QnC <| @VC
def eZ:=aI evB <| aI evT <| aI tys <| aI QQU <| aI TP <| aI TZ <| aI (@QLr T) <| aI (@QPA T) <| aI (@QMf T) <| aI @QDs <| aI QU9 <| aI QUo <| aI @VC <| @QOM T
theorem QGa (n : Nat) {R} {xs : List Trial} (i : Int) {V} {ys : List Trial} [H1 : EncL QL R xs] [H2 : EncL QL V ys] : CM T (n + 1) 78 [some (.lst 4 R),some (.lst 4 V)] [.sl 0,.i .i64 i,.sl 1] = Vx (Qd6 xs i ys 32) (some (.own 4 ((Vl xs i ys).map QL))) ():=by
 rcases H1,H2 with ⟨⟨rfl⟩,⟨rfl⟩⟩
 rw [QAS T n 78 _ _ (by kernel_rfl)]
 show (if 4 = 4 ∧ 4 = 4 ∧ Qu (xs.map QL) = true ∧ Qu (ys.map QL) = true then Vx (Qd6 (xs.map QL) i (ys.map QL) 32) (some (AV.own 4 (Vl (xs.map QL) i (ys.map QL)))) () else none) = _
 rw [if_pos ⟨rfl,rfl,Qj5 xs,Qj5 ys⟩,Qpc,QpU]
theorem QAQ (n : Nat) {R} {xs : List Find} (i : Int) {V} {ys : List Find} [H1 : EncL QH R xs] [H2 : EncL QH V ys] : CM T (n + 1) 136 [some (.lst 8 R),some (.lst 8 V)] [.sl 0,.i .i64 i,.sl 1] = Vx (Qd6 xs i ys 64) (some (.own 8 ((Vl xs i ys).map QH))) ():=by
 rcases H1,H2 with ⟨⟨rfl⟩,⟨rfl⟩⟩
 rw [QAS T n 136 _ _ (by kernel_rfl)]
 show (if 8 = 8 ∧ 8 = 8 ∧ Qu (xs.map QH) = true ∧ Qu (ys.map QH) = true then Vx (Qd6 (xs.map QH) i (ys.map QH) 64) (some (AV.own 8 (Vl (xs.map QH) i (ys.map QH)))) () else none) = _
 rw [if_pos ⟨rfl,rfl,QlS xs,QlS ys⟩,Qpc,QpU]
theorem QCW (n : Nat) {R} {xs : List Secret} (i : Int) {V} {ys : List Secret} [H1 : EncL QC R xs] [H2 : EncL QC V ys] : CM T (n + 1) 139 [some (.lst 3 R),some (.lst 3 V)] [.sl 0,.i .i64 i,.sl 1] = Vx (Qd6 xs i ys 40) (some (.own 3 ((Vl xs i ys).map QC))) ():=by
 rcases H1,H2 with ⟨⟨rfl⟩,⟨rfl⟩⟩
 rw [QAS T n 139 _ _ (by kernel_rfl)]
 show (if 3 = 3 ∧ 3 = 3 ∧ Qu (xs.map QC) = true ∧ Qu (ys.map QC) = true then Vx (Qd6 (xs.map QC) i (ys.map QC) 40) (some (AV.own 3 (Vl (xs.map QC) i (ys.map QC)))) () else none) = _
 rw [if_pos ⟨rfl,rfl,Qhp xs,Qhp ys⟩,Qpc,QpU]
theorem QBR (n : Nat) {R} {xs : List Claim} (i : Int) {V} {ys : List Claim} [H1 : EncL Qk R xs] [H2 : EncL Qk V ys] : CM T (n + 1) 145 [some (.lst 5 R),some (.lst 5 V)] [.sl 0,.i .i64 i,.sl 1] = Vx (Qd6 xs i ys 40) (some (.own 5 ((Vl xs i ys).map Qk))) ():=by
 rcases H1,H2 with ⟨⟨rfl⟩,⟨rfl⟩⟩
 rw [QAS T n 145 _ _ (by kernel_rfl)]
 show (if 5 = 5 ∧ 5 = 5 ∧ Qu (xs.map Qk) = true ∧ Qu (ys.map Qk) = true then Vx (Qd6 (xs.map Qk) i (ys.map Qk) 40) (some (AV.own 5 (Vl (xs.map Qk) i (ys.map Qk)))) () else none) = _
 rw [if_pos ⟨rfl,rfl,Qi7 xs,Qi7 ys⟩,Qpc,QpU]
theorem QWv : cI = VO:=_root_.id rfl
theorem QII (xs : List Int) : Qdy (xs.map VO) = some xs:=Qtx xs
theorem QOF : T.st 55 = true:=by kernel_rfl
theorem QQN : T.st 36 = false:=by kernel_rfl
theorem QOs : T.qt 36 = false:=by kernel_rfl
theorem QLW : T.wt 36 = true:=by kernel_rfl
theorem QMz : T.vt 36 = false:=by kernel_rfl
theorem QNl : T.st 37 = false:=by kernel_rfl
theorem QKQ : T.qt 37 = false:=by kernel_rfl
theorem QPi : T.wt 37 = true:=by kernel_rfl
theorem QNa : T.vt 37 = false:=by kernel_rfl
theorem QMA : T.st 38 = false:=by kernel_rfl
theorem QPa : T.qt 38 = false:=by kernel_rfl
theorem QMm : T.wt 38 = true:=by kernel_rfl
theorem QLc : T.vt 38 = false:=by kernel_rfl
theorem QQD : T.st 40 = false:=by kernel_rfl
theorem QJB : T.qt 40 = false:=by kernel_rfl
theorem QPH : T.wt 40 = true:=by kernel_rfl
theorem QJm : T.vt 40 = false:=by kernel_rfl
theorem QQR : T.st 57 = false:=by kernel_rfl
theorem QO2 : T.qt 57 = false:=by kernel_rfl
theorem QKR : T.wt 57 = true:=by kernel_rfl
theorem QQz : T.vt 57 = false:=by kernel_rfl
theorem QMh : T.st 67 = false:=by kernel_rfl
theorem QJt : T.qt 67 = false:=by kernel_rfl
theorem QQm : T.wt 67 = true:=by kernel_rfl
theorem QJW : T.vt 67 = false:=by kernel_rfl
theorem QO6 : T.st 68 = false:=by kernel_rfl
theorem QOK : T.qt 68 = false:=by kernel_rfl
theorem QML : T.wt 68 = true:=by kernel_rfl
theorem QK3 : T.vt 68 = false:=by kernel_rfl
theorem QOX : T.st 70 = false:=by kernel_rfl
theorem QLs : T.qt 70 = false:=by kernel_rfl
theorem QQQ : T.wt 70 = true:=by kernel_rfl
theorem QQy : T.vt 70 = false:=by kernel_rfl
theorem QPb : T.st 76 = false:=by kernel_rfl
theorem QRr : T.qt 76 = false:=by kernel_rfl
theorem QJc : T.wt 76 = false:=by kernel_rfl
theorem QQT : T.vt 76 = true:=by kernel_rfl
theorem QND : T.st 78 = false:=by kernel_rfl
theorem QNr : T.qt 78 = false:=by kernel_rfl
theorem QOO : T.wt 78 = false:=by kernel_rfl
theorem QJP : T.vt 78 = true:=by kernel_rfl
theorem QQP : T.st 90 = false:=by kernel_rfl
theorem QM9 : T.qt 90 = false:=by kernel_rfl
theorem QMO : T.wt 90 = true:=by kernel_rfl
theorem QM3 : T.vt 90 = false:=by kernel_rfl
theorem QGZ : T.st 116 = false:=by kernel_rfl
theorem QGG : T.qt 116 = false:=by kernel_rfl
theorem QFt : T.wt 116 = true:=by kernel_rfl
theorem QF0 : T.vt 116 = false:=by kernel_rfl
theorem QGL : T.st 123 = false:=by kernel_rfl
theorem QFE : T.qt 123 = false:=by kernel_rfl
theorem QFO : T.wt 123 = true:=by kernel_rfl
theorem QHt : T.vt 123 = false:=by kernel_rfl
theorem QGy : T.st 128 = false:=by kernel_rfl
theorem QFC : T.qt 128 = false:=by kernel_rfl
theorem QFz : T.wt 128 = true:=by kernel_rfl
theorem QGh : T.vt 128 = false:=by kernel_rfl
theorem QH8 : T.st 129 = false:=by kernel_rfl
theorem QGQ : T.qt 129 = false:=by kernel_rfl
theorem QF9 : T.wt 129 = true:=by kernel_rfl
theorem QHD : T.vt 129 = false:=by kernel_rfl
theorem QFH : T.st 136 = false:=by kernel_rfl
theorem QHo : T.qt 136 = false:=by kernel_rfl
theorem QF2 : T.wt 136 = false:=by kernel_rfl
theorem QHg : T.vt 136 = true:=by kernel_rfl
theorem QIG : T.st 139 = false:=by kernel_rfl
theorem QIL : T.qt 139 = false:=by kernel_rfl
theorem QHP : T.wt 139 = false:=by kernel_rfl
theorem QHQ : T.vt 139 = true:=by kernel_rfl
theorem QHw : T.st 145 = false:=by kernel_rfl
theorem QIJ : T.qt 145 = false:=by kernel_rfl
theorem QHJ : T.wt 145 = false:=by kernel_rfl
theorem QGu : T.vt 145 = true:=by kernel_rfl
theorem QE8 : T.st 188 = false:=by kernel_rfl
theorem QFx : T.qt 188 = false:=by kernel_rfl
theorem QGC : T.wt 188 = true:=by kernel_rfl
theorem QHU : T.vt 188 = false:=by kernel_rfl
theorem QEW : T.st 191 = false:=by kernel_rfl
theorem QHX : T.qt 191 = false:=by kernel_rfl
theorem QIO : T.wt 191 = false:=by kernel_rfl
theorem QE1 : T.vt 191 = true:=by kernel_rfl
theorem QFM : T.st 198 = false:=by kernel_rfl
theorem QGl : T.qt 198 = false:=by kernel_rfl
theorem QIm : T.wt 198 = false:=by kernel_rfl
theorem QG2 : T.vt 198 = true:=by kernel_rfl
theorem QE3 : T.st 221 = false:=by kernel_rfl
theorem QHj : T.qt 221 = false:=by kernel_rfl
theorem QEX : T.wt 221 = true:=by kernel_rfl
theorem QIz : T.vt 221 = false:=by kernel_rfl
theorem QGV : T.st 256 = false:=by kernel_rfl
theorem QHN : T.qt 256 = false:=by kernel_rfl
theorem QIC : T.wt 256 = true:=by kernel_rfl
theorem QFs : T.vt 256 = false:=by kernel_rfl
theorem QIs : T.st 268 = false:=by kernel_rfl
theorem QHu : T.qt 268 = false:=by kernel_rfl
theorem QFw : T.wt 268 = true:=by kernel_rfl
theorem QHE : T.vt 268 = false:=by kernel_rfl
def srt:=aI @QWv <| aI @QII <| aI @QPD <| aI @QJx <| aI @QPr <| aI @QJI <| aI @QOF <| aI @QQN <| aI @QOs <| aI @QLW <| aI @QMz <| aI @QNl <| aI @QKQ <| aI @QPi <| aI @QNa <| aI @QMA <| aI @QPa <| aI @QMm <| aI @QLc <| aI @QQD <| aI @QJB <| aI @QPH <| aI @QJm <| aI @QQR <| aI @QO2 <| aI @QKR <| aI @QQz <| aI @QMh <| aI @QJt <| aI @QQm <| aI @QJW <| aI @QO6 <| aI @QOK <| aI @QML <| aI @QK3 <| aI @QOX <| aI @QLs <| aI @QQQ <| aI @QQy <| aI @QPb <| aI @QRr <| aI @QJc <| aI @QQT <| aI @QND <| aI @QNr <| aI @QOO <| aI @QJP <| aI @QQP <| aI @QM9 <| aI @QMO <| aI @QM3 <| aI @QGZ <| aI @QGG <| aI @QFt <| aI @QF0 <| aI @QGL <| aI @QFE <| aI @QFO <| aI @QHt <| aI @QGy <| aI @QFC <| aI @QFz <| aI @QGh <| aI @QH8 <| aI @QGQ <| aI @QF9 <| aI @QHD <| aI @QFH <| aI @QHo <| aI @QF2 <| aI @QHg <| aI @QIG <| aI @QIL <| aI @QHP <| aI @QHQ <| aI @QHw <| aI @QIJ <| aI @QHJ <| aI @QGu <| aI @QE8 <| aI @QFx <| aI @QGC <| aI @QHU <| aI @QEW <| aI @QHX <| aI @QIO <| aI @QE1 <| aI @QFM <| aI @QGl <| aI @QIm <| aI @QG2 <| aI @QE3 <| aI @QHj <| aI @QEX <| aI @QIz <| aI @QGV <| aI @QHN <| aI @QIC <| aI @QFs <| aI @QIs <| aI @QHu <| aI @QFw @QHE
theorem Aa4 : T.at 4 = some An4:=by kernel_rfl
theorem Aa5 : T.at 5 = some An5:=by kernel_rfl
theorem Aa8 : T.at 8 = some An8:=by kernel_rfl
theorem QVw : T.at 10 = some QBz:=by kernel_rfl
theorem QOm : T.at 11 = some QAc:=by kernel_rfl
theorem QM1 : T.at 14 = some QyO:=by kernel_rfl
theorem QVB : T.at 18 = some QDv:=by kernel_rfl
theorem QRQ : T.at 19 = some QCN:=by kernel_rfl
theorem QTe : T.at 20 = some QDt:=by kernel_rfl
theorem QRA : T.at 21 = some QCx:=by kernel_rfl
theorem QSR : T.at 22 = some QCq:=by kernel_rfl
theorem QVd : T.at 23 = some QCa:=by kernel_rfl
theorem QRZ : T.at 24 = some QB6:=by kernel_rfl
theorem QSy : T.at 25 = some QAx:=by kernel_rfl
theorem QVN : T.at 26 = some QBW:=by kernel_rfl
theorem QRG : T.at 27 = some QBu:=by kernel_rfl
theorem QV9 : T.at 28 = some QBJ:=by kernel_rfl
theorem QUN : T.at 29 = some QDB:=by kernel_rfl
theorem QSe : T.at 30 = some QAL:=by kernel_rfl
theorem QVA : T.at 31 = some QCh:=by kernel_rfl
theorem QSK : T.at 32 = some QCK:=by kernel_rfl
theorem QN8 : T.at 33 = some QyX:=by kernel_rfl
theorem QWZ : T.at 34 = some QBI:=by kernel_rfl
theorem QUw : T.at 35 = some QAI:=by kernel_rfl
theorem QK0 : T.at 36 = some QyW:=by kernel_rfl
theorem QWJ : T.at 37 = some QA3:=by kernel_rfl
theorem QUv : T.at 38 = some QCD:=by kernel_rfl
theorem QI1 : T.at 40 = some Qz5:=by kernel_rfl
theorem QSO : T.at 41 = some QC7:=by kernel_rfl
theorem QVj : T.at 42 = some QDg:=by kernel_rfl
theorem QTI : T.at 43 = some QDf:=by kernel_rfl
theorem QQb : T.at 44 = some Qy2:=by kernel_rfl
theorem QRa : T.at 45 = some Qx5:=by kernel_rfl
theorem QGo : T.at 46 = some Qwp:=by kernel_rfl
theorem QP0 : T.at 47 = some QAg:=by kernel_rfl
theorem QMZ : T.at 48 = some QyM:=by kernel_rfl
theorem QAD : T.at 49 = some Qs9:=by kernel_rfl
theorem QJ5 : T.at 50 = some Qya:=by kernel_rfl
theorem QyU : T.at 51 = some Qr7:=by kernel_rfl
theorem QU7 : T.at 52 = some QCn:=by kernel_rfl
theorem QMq : T.at 54 = some Qze:=by kernel_rfl
theorem QVk : T.at 57 = some QBM:=by kernel_rfl
theorem QTW : T.at 59 = some QA6:=by kernel_rfl
theorem QQ8 : T.at 60 = some Qyz:=by kernel_rfl
theorem QWU : T.at 61 = some QC4:=by kernel_rfl
theorem QQd : T.at 62 = some Qzv:=by kernel_rfl
theorem QNy : T.at 63 = some Qxz:=by kernel_rfl
theorem QLu : T.at 64 = some QyP:=by kernel_rfl
theorem QNb : T.at 65 = some Qym:=by kernel_rfl
theorem QOi : T.at 66 = some Qys:=by kernel_rfl
theorem QIB : T.at 67 = some Qwm:=by kernel_rfl
theorem QVh : T.at 68 = some QBY:=by kernel_rfl
theorem QSM : T.at 69 = some QAr:=by kernel_rfl
theorem QWW : T.at 70 = some QCg:=by kernel_rfl
theorem QS9 : T.at 71 = some QB4:=by kernel_rfl
theorem QKz : T.at 72 = some QzL:=by kernel_rfl
theorem QLT : T.at 73 = some Qyl:=by kernel_rfl
theorem QTi : T.at 74 = some QCl:=by kernel_rfl
theorem QUp : T.at 75 = some QDw:=by kernel_rfl
theorem QIk : T.at 76 = some Qw0:=by kernel_rfl
theorem QNC : T.at 77 = some Qxl:=by kernel_rfl
theorem QRE : T.at 79 = some QCu:=by kernel_rfl
theorem QUc : T.at 80 = some QCG:=by kernel_rfl
theorem QSU : T.at 81 = some QAT:=by kernel_rfl
theorem QVV : T.at 82 = some QDD:=by kernel_rfl
theorem QWl : T.at 83 = some QCJ:=by kernel_rfl
theorem QSt : T.at 84 = some QCA:=by kernel_rfl
theorem QTK : T.at 85 = some QBf:=by kernel_rfl
theorem QJO : T.at 86 = some Qyv:=by kernel_rfl
theorem QWe : T.at 87 = some QBm:=by kernel_rfl
theorem QRS : T.at 88 = some QBZ:=by kernel_rfl
theorem QRR : T.at 89 = some QCE:=by kernel_rfl
theorem QKA : T.at 90 = some QxU:=by kernel_rfl
theorem QTN : T.at 91 = some QCc:=by kernel_rfl
theorem QSm : T.at 92 = some QAF:=by kernel_rfl
theorem QUh : T.at 93 = some QAP:=by kernel_rfl
theorem QW1 : T.at 94 = some QDc:=by kernel_rfl
theorem QMj : T.at 95 = some Qz1:=by kernel_rfl
theorem QK5 : T.at 96 = some Qz6:=by kernel_rfl
theorem QTo : T.at 99 = some QBX:=by kernel_rfl
theorem QDJ : T.at 100 = some QqO:=by kernel_rfl
theorem QNK : T.at 101 = some QtK:=by kernel_rfl
theorem QKT : T.at 102 = some Qt0:=by kernel_rfl
theorem QQt : T.at 103 = some Qvh:=by kernel_rfl
theorem QOd : T.at 104 = some QuC:=by kernel_rfl
theorem QJu : T.at 105 = some Qve:=by kernel_rfl
theorem QEm : T.at 106 = some Qq7:=by kernel_rfl
theorem QKd : T.at 107 = some Qt5:=by kernel_rfl
theorem QQ3 : T.at 110 = some Que:=by kernel_rfl
theorem QJb : T.at 116 = some Quu:=by kernel_rfl
theorem QEH : T.at 119 = some QrC:=by kernel_rfl
theorem QEt : T.at 120 = some Qqs:=by kernel_rfl
theorem QKk : T.at 121 = some QuX:=by kernel_rfl
theorem QEM : T.at 122 = some Qse:=by kernel_rfl
theorem QKg : T.at 123 = some Quq:=by kernel_rfl
theorem QDK : T.at 124 = some QqV:=by kernel_rfl
theorem QNf : T.at 125 = some Qub:=by kernel_rfl
theorem QPV : T.at 126 = some Qu7:=by kernel_rfl
theorem QLU : T.at 127 = some Qt9:=by kernel_rfl
theorem QJH : T.at 128 = some QuP:=by kernel_rfl
theorem QEu : T.at 129 = some QrY:=by kernel_rfl
theorem QIZ : T.at 130 = some QtM:=by kernel_rfl
theorem QD9 : T.at 131 = some QqI:=by kernel_rfl
theorem QI4 : T.at 132 = some Qux:=by kernel_rfl
theorem QKL : T.at 133 = some QtW:=by kernel_rfl
theorem QJY : T.at 134 = some Qvk:=by kernel_rfl
theorem QJS : T.at 135 = some QvE:=by kernel_rfl
theorem QO4 : T.at 137 = some QtU:=by kernel_rfl
theorem QQC : T.at 138 = some QtV:=by kernel_rfl
theorem QEK : T.at 140 = some Qr1:=by kernel_rfl
theorem QOu : T.at 141 = some Quj:=by kernel_rfl
theorem QN1 : T.at 142 = some Qu3:=by kernel_rfl
theorem QD2 : T.at 143 = some Qqg:=by kernel_rfl
theorem QMe : T.at 144 = some Qvm:=by kernel_rfl
theorem Qoe : T.at 148 = some QjQ:=by kernel_rfl
theorem QOo : T.at 149 = some Qu0:=by kernel_rfl
theorem QDN : T.at 150 = some QqY:=by kernel_rfl
theorem QEN : T.at 151 = some Qqf:=by kernel_rfl
theorem QOh : T.at 152 = some Qui:=by kernel_rfl
theorem QDW : T.at 153 = some QqF:=by kernel_rfl
theorem QJf : T.at 154 = some QtZ:=by kernel_rfl
theorem QLY : T.at 155 = some Qvv:=by kernel_rfl
theorem QEQ : T.at 156 = some Qry:=by kernel_rfl
theorem QKv : T.at 157 = some Qut:=by kernel_rfl
theorem QMD : T.at 158 = some Qu6:=by kernel_rfl
theorem QIV : T.at 159 = some Qvq:=by kernel_rfl
theorem QD6 : T.at 160 = some QqD:=by kernel_rfl
theorem QNw : T.at 161 = some Qvi:=by kernel_rfl
theorem QK2 : T.at 162 = some Qt1:=by kernel_rfl
theorem QKY : T.at 163 = some Qvu:=by kernel_rfl
theorem QtQ : T.at 164 = some Qm4:=by kernel_rfl
theorem QD0 : T.at 165 = some QqE:=by kernel_rfl
theorem QDH : T.at 166 = some Qp3:=by kernel_rfl
theorem QEJ : T.at 167 = some Qqk:=by kernel_rfl
theorem QEz : T.at 168 = some Qq8:=by kernel_rfl
theorem QPm : T.at 169 = some Qu8:=by kernel_rfl
theorem QMV : T.at 181 = some Qvt:=by kernel_rfl
theorem QDV : T.at 182 = some QrF:=by kernel_rfl
theorem QJg : T.at 187 = some QvF:=by kernel_rfl
theorem QM6 : T.at 188 = some QuZ:=by kernel_rfl
theorem QMR : T.at 189 = some Qu1:=by kernel_rfl
theorem QEw : T.at 190 = some Qre:=by kernel_rfl
theorem QNI : T.at 191 = some Qvn:=by kernel_rfl
theorem QEP : T.at 192 = some Qr0:=by kernel_rfl
theorem QNZ : T.at 193 = some Quk:=by kernel_rfl
theorem QED : T.at 194 = some QrU:=by kernel_rfl
theorem QEn : T.at 195 = some Qqx:=by kernel_rfl
theorem QON : T.at 196 = some QuF:=by kernel_rfl
theorem QQh : T.at 197 = some QuV:=by kernel_rfl
theorem QK7 : T.at 198 = some QuH:=by kernel_rfl
theorem QKP : T.at 199 = some QuN:=by kernel_rfl
theorem QNV : T.at 200 = some QuK:=by kernel_rfl
theorem QMY : T.at 201 = some Qt2:=by kernel_rfl
theorem QDI : T.at 202 = some Qrz:=by kernel_rfl
theorem QEC : T.at 205 = some Qrh:=by kernel_rfl
theorem QLg : T.at 206 = some QvG:=by kernel_rfl
theorem QDO : T.at 209 = some QrL:=by kernel_rfl
theorem QEk : T.at 213 = some Qrw:=by kernel_rfl
theorem QRq : T.at 214 = some QtD:=by kernel_rfl
theorem QMX : T.at 215 = some QvH:=by kernel_rfl
theorem QDT : T.at 216 = some QqP:=by kernel_rfl
theorem QPC : T.at 217 = some Qum:=by kernel_rfl
theorem QOg : T.at 218 = some QtH:=by kernel_rfl
theorem QLO : T.at 219 = some QvB:=by kernel_rfl
theorem QMo : T.at 220 = some QtN:=by kernel_rfl
theorem QMM : T.at 221 = some Qvb:=by kernel_rfl
theorem QMn : T.at 222 = some QuO:=by kernel_rfl
theorem QPu : T.at 223 = some Qvr:=by kernel_rfl
theorem QOw : T.at 224 = some Qua:=by kernel_rfl
theorem QEy : T.at 225 = some Qqj:=by kernel_rfl
theorem Qyu : T.at 226 = some Qn7:=by kernel_rfl
theorem QMS : T.at 227 = some Quc:=by kernel_rfl
theorem QPZ : T.at 228 = some QtJ:=by kernel_rfl
theorem QI6 : T.at 234 = some Qt4:=by kernel_rfl
theorem QEe : T.at 235 = some Qr4:=by kernel_rfl
theorem QEf : T.at 236 = some QqZ:=by kernel_rfl
theorem Qzp : T.at 237 = some QoY:=by kernel_rfl
theorem QD5 : T.at 238 = some Qqe:=by kernel_rfl
theorem QEU : T.at 239 = some Qrd:=by kernel_rfl
theorem QtT : T.at 240 = some Qnx:=by kernel_rfl
theorem QEq : T.at 241 = some QrM:=by kernel_rfl
theorem QMQ : T.at 242 = some Quz:=by kernel_rfl
theorem QEl : T.at 244 = some QrX:=by kernel_rfl
theorem QEG : T.at 245 = some QqR:=by kernel_rfl
theorem QEi : T.at 246 = some Qr3:=by kernel_rfl
theorem QKi : T.at 247 = some QvD:=by kernel_rfl
theorem QDL : T.at 248 = some QrW:=by kernel_rfl
theorem QPS : T.at 249 = some Qvf:=by kernel_rfl
theorem QOC : T.at 254 = some QuB:=by kernel_rfl
theorem QD7 : T.at 255 = some QrT:=by kernel_rfl
theorem QvC : T.at 256 = some QmJ:=by kernel_rfl
theorem QIU : T.at 257 = some Quy:=by kernel_rfl
theorem QNU : T.at 258 = some QvI:=by kernel_rfl
theorem QNE : T.at 260 = some Quv:=by kernel_rfl
theorem QLZ : T.at 261 = some QuD:=by kernel_rfl
theorem QEo : T.at 262 = some Qq0:=by kernel_rfl
theorem QDX : T.at 263 = some QqN:=by kernel_rfl
theorem QDQ : T.at 264 = some Qrk:=by kernel_rfl
theorem QzA : T.at 268 = some QoG:=by kernel_rfl
theorem QEd : T.at 270 = some QrN:=by kernel_rfl
end Go.Proofs.YtncpklppoancgaaGreat
