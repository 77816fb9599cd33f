import Derived.Test.YtonidbheohhgdaaGreatEvB
import Derived.Test.YtonidbheohhgdaaGreatFn
import Derived.Test.YtonidbheohhgdaaGreatProg
import Derived.KernelRfl
namespace Go.Proofs.YtonidbheohhgdaaGreat
open Go Go.Proofs Go.Proofs.YtonidbheohhgdaaGreat.Am
set_option maxHeartbeats 4000000
set_option linter.unusedVariables false
set_option linter.unusedSimpArgs false
set_option linter.defProp false
set_option maxRecDepth 100000
def Q2 (x : Int) : List AV:=[.i .i64 x]
theorem Qoh (x : Int) : Q2 x = [.i .i64 x]:=_root_.id rfl
instance (x : Int) : EncR Q2 [.i .i64 x] x:=⟨rfl⟩
theorem QDZ (xs : List Int) : Qn (xs.map Q2) = xs.map Q2:=Qa9 (fun x=>by simp only [Qoh,Vt,VR]) xs
theorem QFe (xs : List Int) : Ql (xs.map Q2) = true:=Zr (fun x=>by simp only [Qoh,V7,AV.clean,Bool.and_self]) xs
theorem QFU {R : List (List AV)} {xs : List Int} (i : Int) [h : EncL Q2 R xs] : inb R i = inb xs i:=by rw [h.eq,QnY]
theorem QGR {R : List (List AV)} {xs : List Int} (i : Int) [h : EncL Q2 R xs] (hi : inb xs i = true) : QK R i.toNat = Q2 (gt xs i):=by rw [h.eq,QnT xs i hi]
def QdV (x : Int) : List AV:=[.i .u8 x]
theorem QrR (x : Int) : QdV x = [.i .u8 x]:=_root_.id rfl
instance (x : Int) : EncR QdV [.i .u8 x] x:=⟨rfl⟩
theorem QDh (xs : List Int) : Qn (xs.map QdV) = xs.map QdV:=Qa9 (fun x=>by simp only [QrR,Vt,VR]) xs
theorem QDl (xs : List Int) : Ql (xs.map QdV) = true:=Zr (fun x=>by simp only [QrR,V7,AV.clean,Bool.and_self]) xs
theorem QMM {R : List (List AV)} {xs : List Int} (i : Int) [h : EncL QdV R xs] : inb R i = inb xs i:=by rw [h.eq,QnY]
theorem QMl {R : List (List AV)} {xs : List Int} (i : Int) [h : EncL QdV R xs] (hi : inb xs i = true) : QK R i.toNat = QdV (gt xs i):=by rw [h.eq,QnT xs i hi]
def c_b (x : Bool) : List AV:=[.b x]
theorem Qw4 (x : Bool) : c_b x = [.b x]:=_root_.id rfl
instance (x : Bool) : EncR c_b [.b x] x:=⟨rfl⟩
theorem QRA (xs : List Bool) : Qn (xs.map c_b) = xs.map c_b:=Qa9 (fun x=>by simp only [Qw4,Vt,VR]) xs
theorem QQ1 (xs : List Bool) : Ql (xs.map c_b) = true:=Zr (fun x=>by simp only [Qw4,V7,AV.clean,Bool.and_self]) xs
theorem QTI {R : List (List AV)} {xs : List Bool} (i : Int) [h : EncL c_b R xs] : inb R i = inb xs i:=by rw [h.eq,QnY]
theorem QOJ {R : List (List AV)} {xs : List Bool} (i : Int) [h : EncL c_b R xs] (hi : inb xs i = true) : QK R i.toNat = c_b (gt xs i):=by rw [h.eq,QnT xs i hi]
def c_s (x : List UInt8) : List AV:=[.s x]
theorem Qwb (x : List UInt8) : c_s x = [.s x]:=_root_.id rfl
instance (x : List UInt8) : EncR c_s [.s x] x:=⟨rfl⟩
theorem QQt (xs : List (List UInt8)) : Qn (xs.map c_s) = xs.map c_s:=Qa9 (fun x=>by simp only [Qwb,Vt,VR]) xs
theorem QQE (xs : List (List UInt8)) : Ql (xs.map c_s) = true:=Zr (fun x=>by simp only [Qwb,V7,AV.clean,Bool.and_self]) xs
theorem QSZ {R : List (List AV)} {xs : List (List UInt8)} (i : Int) [h : EncL c_s R xs] : inb R i = inb xs i:=by rw [h.eq,QnY]
theorem QQe {R : List (List AV)} {xs : List (List UInt8)} (i : Int) [h : EncL c_s R xs] (hi : inb xs i = true) : QK R i.toNat = c_s (gt xs i):=by rw [h.eq,QnT xs i hi]
def Xo (x : l1Cur) : List AV:=[.imm 1 (x.b.map QdV),.i .i64 x.i,.i .i64 x.h]
theorem Qpl (x : l1Cur) : Xo x = [.imm 1 (x.b.map QdV),.i .i64 x.i,.i .i64 x.h]:=_root_.id rfl
instance (yxi yxh) {R1 yxb} [H1 : EncL QdV R1 yxb] : EncR Xo [.imm 1 R1,.i .i64 yxi,.i .i64 yxh] (⟨yxb,yxi,yxh⟩ : l1Cur):=⟨by obtain ⟨rfl⟩:=H1; rfl⟩
def Qk2 (x : l1Cur) : List AV:=[.own 1 (x.b.map QdV),.i .i64 x.i,.i .i64 x.h]
theorem QjE (x : l1Cur) : Qk2 x = [.own 1 (x.b.map QdV),.i .i64 x.i,.i .i64 x.h]:=_root_.id rfl
instance (yxi yxh) {R1 yxb} [H1 : EncL QdV R1 yxb] : EncR Qk2 [.own 1 R1,.i .i64 yxi,.i .i64 yxh] (⟨yxb,yxi,yxh⟩ : l1Cur):=⟨by obtain ⟨rfl⟩:=H1; rfl⟩
theorem Qv0 (xs : List l1Cur) : Qn (xs.map Qk2) = xs.map Xo:=Qa9 (fun x=>by simp only [QjE,Qpl,Vt,VR,QDh]) xs
theorem Qyo (xs : List l1Cur) : Ql (xs.map Qk2) = true:=Zr (fun x=>by simp only [QjE,V7,AV.clean,Bool.and_self,QDl]) xs
theorem Qw0 (x : l1Cur) : (⟨x.b,x.i,x.h⟩ : l1Cur) = x:=_root_.id rfl
def QcB (x : Thing) : List AV:=[.i .i64 x.Id,.i .i64 x.Kind,.i .i64 x.Colour,.i .i64 x.Size,.i .i64 x.Worth]
theorem QmQ (x : Thing) : QcB x = [.i .i64 x.Id,.i .i64 x.Kind,.i .i64 x.Colour,.i .i64 x.Size,.i .i64 x.Worth]:=_root_.id rfl
instance (yxId yxKind yxColour yxSize yxWorth)  : EncR QcB [.i .i64 yxId,.i .i64 yxKind,.i .i64 yxColour,.i .i64 yxSize,.i .i64 yxWorth] (⟨yxId,yxKind,yxColour,yxSize,yxWorth⟩ : Thing):=⟨by rfl⟩
theorem Qxm (xs : List Thing) : Qn (xs.map QcB) = xs.map QcB:=Qa9 (fun x=>by simp only [QmQ,Vt,VR]) xs
theorem Qv9 (xs : List Thing) : Ql (xs.map QcB) = true:=Zr (fun x=>by simp only [QmQ,V7,AV.clean,Bool.and_self]) xs
theorem Qv2 (x : Thing) : (⟨x.Id,x.Kind,x.Colour,x.Size,x.Worth⟩ : Thing) = x:=_root_.id rfl
def Vf (x : Find) : List AV:=[.i .i64 x.Thing.Id,.i .i64 x.Thing.Kind,.i .i64 x.Thing.Colour,.i .i64 x.Thing.Size,.i .i64 x.Thing.Worth,.i .i64 x.Place,.i .i64 x.At,.i .i64 x.Finder]
theorem Qoj (x : Find) : Vf x = [.i .i64 x.Thing.Id,.i .i64 x.Thing.Kind,.i .i64 x.Thing.Colour,.i .i64 x.Thing.Size,.i .i64 x.Thing.Worth,.i .i64 x.Place,.i .i64 x.At,.i .i64 x.Finder]:=_root_.id rfl
instance (yxThingxId yxThingxKind yxThingxColour yxThingxSize yxThingxWorth yxPlace yxAt yxFinder)  : EncR Vf [.i .i64 yxThingxId,.i .i64 yxThingxKind,.i .i64 yxThingxColour,.i .i64 yxThingxSize,.i .i64 yxThingxWorth,.i .i64 yxPlace,.i .i64 yxAt,.i .i64 yxFinder] (⟨⟨yxThingxId,yxThingxKind,yxThingxColour,yxThingxSize,yxThingxWorth⟩,yxPlace,yxAt,yxFinder⟩ : Find):=⟨by rfl⟩
theorem Qss (xs : List Find) : Qn (xs.map Vf) = xs.map Vf:=Qa9 (fun x=>by simp only [Qoj,Vt,VR]) xs
theorem Qlb (xs : List Find) : Ql (xs.map Vf) = true:=Zr (fun x=>by simp only [Qoj,V7,AV.clean,Bool.and_self]) xs
theorem Qzs (x : Find) : (⟨x.Thing,x.Place,x.At,x.Finder⟩ : Find) = x:=_root_.id rfl
def XW (x : Mark) : List AV:=[.i .i64 x.Question,.i .i64 x.Answer]
theorem QoO (x : Mark) : XW x = [.i .i64 x.Question,.i .i64 x.Answer]:=_root_.id rfl
instance (yxQuestion yxAnswer)  : EncR XW [.i .i64 yxQuestion,.i .i64 yxAnswer] (⟨yxQuestion,yxAnswer⟩ : Mark):=⟨by rfl⟩
theorem Qo3 (xs : List Mark) : Qn (xs.map XW) = xs.map XW:=Qa9 (fun x=>by simp only [QoO,Vt,VR]) xs
theorem Qof (xs : List Mark) : Ql (xs.map XW) = true:=Zr (fun x=>by simp only [QoO,V7,AV.clean,Bool.and_self]) xs
theorem Qzh (x : Mark) : (⟨x.Question,x.Answer⟩ : Mark) = x:=_root_.id rfl
def VX (x : Secret) : List AV:=[.i .i64 x.Thing,.imm 2 (x.Marks.map XW),.i .i64 x.Salt]
theorem Qnm (x : Secret) : VX x = [.i .i64 x.Thing,.imm 2 (x.Marks.map XW),.i .i64 x.Salt]:=_root_.id rfl
instance (yxThing yxSalt) {R1 yxMarks} [H1 : EncL XW R1 yxMarks] : EncR VX [.i .i64 yxThing,.imm 2 R1,.i .i64 yxSalt] (⟨yxThing,yxMarks,yxSalt⟩ : Secret):=⟨by obtain ⟨rfl⟩:=H1; rfl⟩
def Q7 (x : Secret) : List AV:=[.i .i64 x.Thing,.own 2 (x.Marks.map XW),.i .i64 x.Salt]
theorem Qh5 (x : Secret) : Q7 x = [.i .i64 x.Thing,.own 2 (x.Marks.map XW),.i .i64 x.Salt]:=_root_.id rfl
instance (yxThing yxSalt) {R1 yxMarks} [H1 : EncL XW R1 yxMarks] : EncR Q7 [.i .i64 yxThing,.own 2 R1,.i .i64 yxSalt] (⟨yxThing,yxMarks,yxSalt⟩ : Secret):=⟨by obtain ⟨rfl⟩:=H1; rfl⟩
theorem QnW (xs : List Secret) : Qn (xs.map Q7) = xs.map VX:=Qa9 (fun x=>by simp only [Qh5,Qnm,Vt,VR,Qo3]) xs
theorem Qg0 (xs : List Secret) : Ql (xs.map Q7) = true:=Zr (fun x=>by simp only [Qh5,V7,AV.clean,Bool.and_self,Qof]) xs
theorem Qu8 (x : Secret) : (⟨x.Thing,x.Marks,x.Salt⟩ : Secret) = x:=_root_.id rfl
def Qs (x : Claim) : List AV:=[.i .i64 x.Id,.i .i64 x.Who,.i .i64 x.Thing,.i .i64 x.At,.i .i64 x.State]
theorem Qls (x : Claim) : Qs x = [.i .i64 x.Id,.i .i64 x.Who,.i .i64 x.Thing,.i .i64 x.At,.i .i64 x.State]:=_root_.id rfl
instance (yxId yxWho yxThing yxAt yxState)  : EncR Qs [.i .i64 yxId,.i .i64 yxWho,.i .i64 yxThing,.i .i64 yxAt,.i .i64 yxState] (⟨yxId,yxWho,yxThing,yxAt,yxState⟩ : Claim):=⟨by rfl⟩
theorem Qpe (xs : List Claim) : Qn (xs.map Qs) = xs.map Qs:=Qa9 (fun x=>by simp only [Qls,Vt,VR]) xs
theorem Qip (xs : List Claim) : Ql (xs.map Qs) = true:=Zr (fun x=>by simp only [Qls,V7,AV.clean,Bool.and_self]) xs
theorem QwE (x : Claim) : (⟨x.Id,x.Who,x.Thing,x.At,x.State⟩ : Claim) = x:=_root_.id rfl
def VB (x : Trial) : List AV:=[.i .i64 x.Claim,.i .i64 x.Asked,.i .i64 x.Right,.i .i64 x.Wrong]
theorem Qmj (x : Trial) : VB x = [.i .i64 x.Claim,.i .i64 x.Asked,.i .i64 x.Right,.i .i64 x.Wrong]:=_root_.id rfl
instance (yxClaim yxAsked yxRight yxWrong)  : EncR VB [.i .i64 yxClaim,.i .i64 yxAsked,.i .i64 yxRight,.i .i64 yxWrong] (⟨yxClaim,yxAsked,yxRight,yxWrong⟩ : Trial):=⟨by rfl⟩
theorem QpS (xs : List Trial) : Qn (xs.map VB) = xs.map VB:=Qa9 (fun x=>by simp only [Qmj,Vt,VR]) xs
theorem Qjj (xs : List Trial) : Ql (xs.map VB) = true:=Zr (fun x=>by simp only [Qmj,V7,AV.clean,Bool.and_self]) xs
theorem Qyg (x : Trial) : (⟨x.Claim,x.Asked,x.Right,x.Wrong⟩ : Trial) = x:=_root_.id rfl
def VT (x : Slot) : List AV:=[.i .i64 x.Id,.i .i64 x.Size,.i .i64 x.Thing]
theorem Qod (x : Slot) : VT x = [.i .i64 x.Id,.i .i64 x.Size,.i .i64 x.Thing]:=_root_.id rfl
instance (yxId yxSize yxThing)  : EncR VT [.i .i64 yxId,.i .i64 yxSize,.i .i64 yxThing] (⟨yxId,yxSize,yxThing⟩ : Slot):=⟨by rfl⟩
theorem Qul (xs : List Slot) : Qn (xs.map VT) = xs.map VT:=Qa9 (fun x=>by simp only [Qod,Vt,VR]) xs
theorem QsU (xs : List Slot) : Ql (xs.map VT) = true:=Zr (fun x=>by simp only [Qod,V7,AV.clean,Bool.and_self]) xs
theorem QA2 (x : Slot) : (⟨x.Id,x.Size,x.Thing⟩ : Slot) = x:=_root_.id rfl
def VS (x : Hand) : List AV:=[.i .i64 x.Thing,.i .i64 x.Holder,.i .i64 x.Who,.i .i64 x.At,.i .i64 x.Seal]
theorem Qoz (x : Hand) : VS x = [.i .i64 x.Thing,.i .i64 x.Holder,.i .i64 x.Who,.i .i64 x.At,.i .i64 x.Seal]:=_root_.id rfl
instance (yxThing yxHolder yxWho yxAt yxSeal)  : EncR VS [.i .i64 yxThing,.i .i64 yxHolder,.i .i64 yxWho,.i .i64 yxAt,.i .i64 yxSeal] (⟨yxThing,yxHolder,yxWho,yxAt,yxSeal⟩ : Hand):=⟨by rfl⟩
theorem Qt5 (xs : List Hand) : Qn (xs.map VS) = xs.map VS:=Qa9 (fun x=>by simp only [Qoz,Vt,VR]) xs
theorem QtO (xs : List Hand) : Ql (xs.map VS) = true:=Zr (fun x=>by simp only [Qoz,V7,AV.clean,Bool.and_self]) xs
theorem QzS (x : Hand) : (⟨x.Thing,x.Holder,x.Who,x.At,x.Seal⟩ : Hand) = x:=_root_.id rfl
def VN (x : Entry) : List AV:=[.i .i64 x.From,.i .i64 x.To,.i .i64 x.Cents,.i .i64 x.At]
theorem Qmg (x : Entry) : VN x = [.i .i64 x.From,.i .i64 x.To,.i .i64 x.Cents,.i .i64 x.At]:=_root_.id rfl
instance (yxFrom yxTo yxCents yxAt)  : EncR VN [.i .i64 yxFrom,.i .i64 yxTo,.i .i64 yxCents,.i .i64 yxAt] (⟨yxFrom,yxTo,yxCents,yxAt⟩ : Entry):=⟨by rfl⟩
theorem Qqa (xs : List Entry) : Qn (xs.map VN) = xs.map VN:=Qa9 (fun x=>by simp only [Qmg,Vt,VR]) xs
theorem Qqh (xs : List Entry) : Ql (xs.map VN) = true:=Zr (fun x=>by simp only [Qmg,V7,AV.clean,Bool.and_self]) xs
theorem Qv6 (x : Entry) : (⟨x.From,x.To,x.Cents,x.At⟩ : Entry) = x:=_root_.id rfl
def QM (x : House) : List AV:=[.i .i64 x.No,.imm 8 (x.Finds.map Vf),.imm 3 (x.Secrets.map VX),.imm 3 (x.Slots.map VT),.imm 5 (x.Claims.map Qs),.imm 4 (x.Trials.map VB),.imm 5 (x.Chain.map VS),.imm 4 (x.Book.map VN),.i .i64 x.Now]
theorem Qp4 (x : House) : QM x = [.i .i64 x.No,.imm 8 (x.Finds.map Vf),.imm 3 (x.Secrets.map VX),.imm 3 (x.Slots.map VT),.imm 5 (x.Claims.map Qs),.imm 4 (x.Trials.map VB),.imm 5 (x.Chain.map VS),.imm 4 (x.Book.map VN),.i .i64 x.Now]:=_root_.id rfl
instance (yxNo yxNow) {R1 yxFinds R2 yxSecrets R3 yxSlots R4 yxClaims R5 yxTrials R6 yxChain R7 yxBook} [H1 : EncL Vf R1 yxFinds] [H2 : EncL VX R2 yxSecrets] [H3 : EncL VT R3 yxSlots] [H4 : EncL Qs R4 yxClaims] [H5 : EncL VB R5 yxTrials] [H6 : EncL VS R6 yxChain] [H7 : EncL VN R7 yxBook] : EncR QM [.i .i64 yxNo,.imm 8 R1,.imm 3 R2,.imm 3 R3,.imm 5 R4,.imm 4 R5,.imm 5 R6,.imm 4 R7,.i .i64 yxNow] (⟨yxNo,yxFinds,yxSecrets,yxSlots,yxClaims,yxTrials,yxChain,yxBook,yxNow⟩ : House):=⟨by obtain ⟨rfl⟩:=H1; obtain ⟨rfl⟩:=H2; obtain ⟨rfl⟩:=H3; obtain ⟨rfl⟩:=H4; obtain ⟨rfl⟩:=H5; obtain ⟨rfl⟩:=H6; obtain ⟨rfl⟩:=H7; rfl⟩
def JH (x : House) : List AV:=[.i .i64 x.No,.own 8 (x.Finds.map Vf),.own 3 (x.Secrets.map Q7),.own 3 (x.Slots.map VT),.own 5 (x.Claims.map Qs),.own 4 (x.Trials.map VB),.own 5 (x.Chain.map VS),.own 4 (x.Book.map VN),.i .i64 x.Now]
theorem QjQ (x : House) : JH x = [.i .i64 x.No,.own 8 (x.Finds.map Vf),.own 3 (x.Secrets.map Q7),.own 3 (x.Slots.map VT),.own 5 (x.Claims.map Qs),.own 4 (x.Trials.map VB),.own 5 (x.Chain.map VS),.own 4 (x.Book.map VN),.i .i64 x.Now]:=_root_.id rfl
instance (yxNo yxNow) {R1 yxFinds R2 yxSecrets R3 yxSlots R4 yxClaims R5 yxTrials R6 yxChain R7 yxBook} [H1 : EncL Vf R1 yxFinds] [H2 : EncL Q7 R2 yxSecrets] [H3 : EncL VT R3 yxSlots] [H4 : EncL Qs R4 yxClaims] [H5 : EncL VB R5 yxTrials] [H6 : EncL VS R6 yxChain] [H7 : EncL VN R7 yxBook] : EncR JH [.i .i64 yxNo,.own 8 R1,.own 3 R2,.own 3 R3,.own 5 R4,.own 4 R5,.own 5 R6,.own 4 R7,.i .i64 yxNow] (⟨yxNo,yxFinds,yxSecrets,yxSlots,yxClaims,yxTrials,yxChain,yxBook,yxNow⟩ : House):=⟨by obtain ⟨rfl⟩:=H1; obtain ⟨rfl⟩:=H2; obtain ⟨rfl⟩:=H3; obtain ⟨rfl⟩:=H4; obtain ⟨rfl⟩:=H5; obtain ⟨rfl⟩:=H6; obtain ⟨rfl⟩:=H7; rfl⟩
theorem QvW (xs : List House) : Qn (xs.map JH) = xs.map QM:=Qa9 (fun x=>by simp only [QjQ,Qp4,Vt,VR,Qpe,Qqa,Qss,Qt5,QnW,Qul,QpS]) xs
theorem QxE (xs : List House) : Ql (xs.map JH) = true:=Zr (fun x=>by simp only [QjQ,V7,AV.clean,Bool.and_self,Qip,Qqh,Qlb,QtO,Qg0,QsU,Qjj]) xs
theorem Qxb (x : House) : (⟨x.No,x.Finds,x.Secrets,x.Slots,x.Claims,x.Trials,x.Chain,x.Book,x.Now⟩ : House) = x:=_root_.id rfl
def JE (x : Bid) : List AV:=[.i .i64 x.Who,.i .i64 x.Cents,.i .i64 x.Seal]
theorem Qrb (x : Bid) : JE x = [.i .i64 x.Who,.i .i64 x.Cents,.i .i64 x.Seal]:=_root_.id rfl
instance (yxWho yxCents yxSeal)  : EncR JE [.i .i64 yxWho,.i .i64 yxCents,.i .i64 yxSeal] (⟨yxWho,yxCents,yxSeal⟩ : Bid):=⟨by rfl⟩
theorem Qwj (xs : List Bid) : Qn (xs.map JE) = xs.map JE:=Qa9 (fun x=>by simp only [Qrb,Vt,VR]) xs
theorem Qy9 (xs : List Bid) : Ql (xs.map JE) = true:=Zr (fun x=>by simp only [Qrb,V7,AV.clean,Bool.and_self]) xs
theorem QFK (x : Bid) : (⟨x.Who,x.Cents,x.Seal⟩ : Bid) = x:=_root_.id rfl
def QgK (x : Event) : List AV:=[.i .i64 x.Kind,.i .i64 x.Find.Thing.Id,.i .i64 x.Find.Thing.Kind,.i .i64 x.Find.Thing.Colour,.i .i64 x.Find.Thing.Size,.i .i64 x.Find.Thing.Worth,.i .i64 x.Find.Place,.i .i64 x.Find.At,.i .i64 x.Find.Finder,.imm 2 (x.Marks.map XW),.i .i64 x.Id,.i .i64 x.Who,.i .i64 x.N,.imm 3 (x.Bids.map JE)]
theorem Qpj (x : Event) : QgK x = [.i .i64 x.Kind,.i .i64 x.Find.Thing.Id,.i .i64 x.Find.Thing.Kind,.i .i64 x.Find.Thing.Colour,.i .i64 x.Find.Thing.Size,.i .i64 x.Find.Thing.Worth,.i .i64 x.Find.Place,.i .i64 x.Find.At,.i .i64 x.Find.Finder,.imm 2 (x.Marks.map XW),.i .i64 x.Id,.i .i64 x.Who,.i .i64 x.N,.imm 3 (x.Bids.map JE)]:=_root_.id rfl
instance (yxKind yxFindxThingxId yxFindxThingxKind yxFindxThingxColour yxFindxThingxSize yxFindxThingxWorth yxFindxPlace yxFindxAt yxFindxFinder yxId yxWho yxN) {R1 yxMarks R2 yxBids} [H1 : EncL XW R1 yxMarks] [H2 : EncL JE R2 yxBids] : EncR QgK [.i .i64 yxKind,.i .i64 yxFindxThingxId,.i .i64 yxFindxThingxKind,.i .i64 yxFindxThingxColour,.i .i64 yxFindxThingxSize,.i .i64 yxFindxThingxWorth,.i .i64 yxFindxPlace,.i .i64 yxFindxAt,.i .i64 yxFindxFinder,.imm 2 R1,.i .i64 yxId,.i .i64 yxWho,.i .i64 yxN,.imm 3 R2] (⟨yxKind,⟨⟨yxFindxThingxId,yxFindxThingxKind,yxFindxThingxColour,yxFindxThingxSize,yxFindxThingxWorth⟩,yxFindxPlace,yxFindxAt,yxFindxFinder⟩,yxMarks,yxId,yxWho,yxN,yxBids⟩ : Event):=⟨by obtain ⟨rfl⟩:=H1; obtain ⟨rfl⟩:=H2; rfl⟩
def Qer (x : Event) : List AV:=[.i .i64 x.Kind,.i .i64 x.Find.Thing.Id,.i .i64 x.Find.Thing.Kind,.i .i64 x.Find.Thing.Colour,.i .i64 x.Find.Thing.Size,.i .i64 x.Find.Thing.Worth,.i .i64 x.Find.Place,.i .i64 x.Find.At,.i .i64 x.Find.Finder,.own 2 (x.Marks.map XW),.i .i64 x.Id,.i .i64 x.Who,.i .i64 x.N,.own 3 (x.Bids.map JE)]
theorem Qjv (x : Event) : Qer x = [.i .i64 x.Kind,.i .i64 x.Find.Thing.Id,.i .i64 x.Find.Thing.Kind,.i .i64 x.Find.Thing.Colour,.i .i64 x.Find.Thing.Size,.i .i64 x.Find.Thing.Worth,.i .i64 x.Find.Place,.i .i64 x.Find.At,.i .i64 x.Find.Finder,.own 2 (x.Marks.map XW),.i .i64 x.Id,.i .i64 x.Who,.i .i64 x.N,.own 3 (x.Bids.map JE)]:=_root_.id rfl
instance (yxKind yxFindxThingxId yxFindxThingxKind yxFindxThingxColour yxFindxThingxSize yxFindxThingxWorth yxFindxPlace yxFindxAt yxFindxFinder yxId yxWho yxN) {R1 yxMarks R2 yxBids} [H1 : EncL XW R1 yxMarks] [H2 : EncL JE R2 yxBids] : EncR Qer [.i .i64 yxKind,.i .i64 yxFindxThingxId,.i .i64 yxFindxThingxKind,.i .i64 yxFindxThingxColour,.i .i64 yxFindxThingxSize,.i .i64 yxFindxThingxWorth,.i .i64 yxFindxPlace,.i .i64 yxFindxAt,.i .i64 yxFindxFinder,.own 2 R1,.i .i64 yxId,.i .i64 yxWho,.i .i64 yxN,.own 3 R2] (⟨yxKind,⟨⟨yxFindxThingxId,yxFindxThingxKind,yxFindxThingxColour,yxFindxThingxSize,yxFindxThingxWorth⟩,yxFindxPlace,yxFindxAt,yxFindxFinder⟩,yxMarks,yxId,yxWho,yxN,yxBids⟩ : Event):=⟨by obtain ⟨rfl⟩:=H1; obtain ⟨rfl⟩:=H2; rfl⟩
theorem QwC (xs : List Event) : Qn (xs.map Qer) = xs.map QgK:=Qa9 (fun x=>by simp only [Qjv,Qpj,Vt,VR,Qwj,Qo3]) xs
theorem Qxy (xs : List Event) : Ql (xs.map Qer) = true:=Zr (fun x=>by simp only [Qjv,V7,AV.clean,Bool.and_self,Qy9,Qof]) xs
theorem QyX (x : Event) : (⟨x.Kind,x.Find,x.Marks,x.Id,x.Who,x.N,x.Bids⟩ : Event) = x:=_root_.id rfl
def QjX (x : Share) : List AV:=[.i .i64 x.Who,.i .i64 x.Cents]
theorem QlP (x : Share) : QjX x = [.i .i64 x.Who,.i .i64 x.Cents]:=_root_.id rfl
instance (yxWho yxCents)  : EncR QjX [.i .i64 yxWho,.i .i64 yxCents] (⟨yxWho,yxCents⟩ : Share):=⟨by rfl⟩
theorem Qwg (xs : List Share) : Qn (xs.map QjX) = xs.map QjX:=Qa9 (fun x=>by simp only [QlP,Vt,VR]) xs
theorem Qx1 (xs : List Share) : Ql (xs.map QjX) = true:=Zr (fun x=>by simp only [QlP,V7,AV.clean,Bool.and_self]) xs
theorem QxN (x : Share) : (⟨x.Who,x.Cents⟩ : Share) = x:=_root_.id rfl
def QeM (x : List Int) : List AV:=[.imm 1 (x.map Q2)]
theorem Qyb (x : List Int) : QeM x = [.imm 1 (x.map Q2)]:=_root_.id rfl
instance {R} {x : List Int} [H : EncL Q2 R x] : EncR QeM [.imm 1 R] x:=⟨by obtain ⟨rfl⟩:=H; rfl⟩
theorem QuS {R : List (List AV)} {xs : List (List Int)} (i : Int) [h : EncL QeM R xs] : inb R i = inb xs i:=by rw [h.eq,QnY]
theorem QvJ {R : List (List AV)} {xs : List (List Int)} (i : Int) [h : EncL QeM R xs] (hi : inb xs i = true) : QK R i.toNat = QeM (gt xs i):=by rw [h.eq,QnT xs i hi]
def QNa:=aI @Qoh <| aI @QDZ <| aI @QFe <| aI @QFU <| aI @QGR <| aI @QrR <| aI @QDh <| aI @QDl <| aI @QMM <| aI @QMl <| aI @Qw4 <| aI @QRA <| aI @QQ1 <| aI @QTI <| aI @QOJ <| aI @Qwb <| aI @QQt <| aI @QQE <| aI @QSZ <| aI @QQe <| aI @Qpl <| aI @Qv0 <| aI @Qyo <| aI @Qw0 <| aI @QjE <| aI @QmQ <| aI @Qxm <| aI @Qv9 <| aI @Qv2 <| aI @Qoj <| aI @Qss <| aI @Qlb <| aI @Qzs <| aI @QoO <| aI @Qo3 <| aI @Qof <| aI @Qzh <| aI @Qnm <| aI @QnW <| aI @Qg0 <| aI @Qu8 <| aI @Qh5 <| aI @Qls <| aI @Qpe <| aI @Qip <| aI @QwE <| aI @Qmj <| aI @QpS <| aI @Qjj <| aI @Qyg <| aI @Qod <| aI @Qul <| aI @QsU <| aI @QA2 <| aI @Qoz <| aI @Qt5 <| aI @QtO <| aI @QzS <| aI @Qmg <| aI @Qqa <| aI @Qqh <| aI @Qv6 <| aI @Qp4 <| aI @QvW <| aI @QxE <| aI @Qxb <| aI @QjQ <| aI @Qrb <| aI @Qwj <| aI @Qy9 <| aI @QFK <| aI @Qpj <| aI @QwC <| aI @Qxy <| aI @QyX <| aI @Qjv <| aI @QlP <| aI @Qwg <| aI @Qx1 <| aI @QxN <| aI @Qyb <| aI @QuS @QvJ
theorem tys : bsl Tryz.prog 5 = false ∧ Qex Tryz.prog 24 = true ∧ Qex Tryz.prog 26 = true ∧ Qex Tryz.prog 27 = true ∧ Qex Tryz.prog 28 = true ∧ Qex Tryz.prog 29 = true ∧ Qex Tryz.prog 30 = true ∧ Qex Tryz.prog 43 = true ∧ Qex Tryz.prog 44 = true ∧ QdS Tryz.prog 168 = [0,0] ∧ QdS Tryz.prog 210 = [0] ∧ QdS Tryz.prog 24 = [0,0,0,0,0,0,0,0] ∧ QdS Tryz.prog 25 = [0,2,0] ∧ QdS Tryz.prog 26 = [0,0,0] ∧ QdS Tryz.prog 263 = [1] ∧ QdS Tryz.prog 27 = [0,0,0,0,0] ∧ QdS Tryz.prog 28 = [0,0,0,0] ∧ QdS Tryz.prog 29 = [0,0,0,0,0] ∧ QdS Tryz.prog 30 = [0,0,0,0] ∧ QdS Tryz.prog 33 = [0,0,0,0,0,0,0,0,0,2,0,0,0,3] ∧ QdS Tryz.prog 43 = [0,0] ∧ QdS Tryz.prog 44 = [0,0,0] ∧ QdS Tryz.prog 49 = [0] ∧ tb Tryz.prog 119 = some 16 ∧ tb Tryz.prog 121 = some 40 ∧ tb Tryz.prog 141 = some 24 ∧ tb Tryz.prog 219 = some 24 ∧ tb Tryz.prog 3 = some 8 ∧ tb Tryz.prog 42 = some 64 ∧ tb Tryz.prog 46 = some 144 ∧ tb Tryz.prog 53 = some 40 ∧ tb Tryz.prog 58 = some 40 ∧ tb Tryz.prog 60 = some 32 ∧ tb Tryz.prog 99 = some 32 ∧ tbd Tryz.prog 119 = .st [.i .i64 0,.i .i64 0] [(0,1),(1,1)] ∧ tbd Tryz.prog 121 = .st [.i .i64 0,.nil,.i .i64 0] [(0,1),(1,1),(2,1)] ∧ tbd Tryz.prog 134 = .st [.nil,.i .i64 0,.i .i64 0] [(0,1),(1,1),(2,1)] ∧ tbd Tryz.prog 141 = .st [.i .i64 0,.i .i64 0,.i .i64 0] [(0,1),(1,1),(2,1)] ∧ tbd Tryz.prog 171 = .st [.i .i64 0,.i .i64 0] [(0,1),(1,1)] ∧ tbd Tryz.prog 219 = .st [.i .i64 0,.i .i64 0,.i .i64 0] [(0,1),(1,1),(2,1)] ∧ tbd Tryz.prog 32 = .st [.i .i64 0,.nil,.nil,.nil,.nil,.nil,.nil,.nil,.i .i64 0] [(0,1),(1,1),(2,1),(3,1),(4,1),(5,1),(6,1),(7,1),(8,1)] ∧ tbd Tryz.prog 40 = .st [.i .i64 0,.i .i64 0,.i .i64 0,.i .i64 0,.i .i64 0] [(0,1),(1,1),(2,1),(3,1),(4,1)] ∧ tbd Tryz.prog 42 = .st [.i .i64 0,.i .i64 0,.i .i64 0,.i .i64 0,.i .i64 0,.i .i64 0,.i .i64 0,.i .i64 0] [(0,5),(5,1),(6,1),(7,1)] ∧ tbd Tryz.prog 46 = .st [.i .i64 0,.i .i64 0,.i .i64 0,.i .i64 0,.i .i64 0,.i .i64 0,.i .i64 0,.i .i64 0,.i .i64 0,.nil,.i .i64 0,.i .i64 0,.i .i64 0,.nil] [(0,1),(1,8),(9,1),(10,1),(11,1),(12,1),(13,1)] ∧ tbd Tryz.prog 53 = .st [.i .i64 0,.i .i64 0,.i .i64 0,.i .i64 0,.i .i64 0] [(0,1),(1,1),(2,1),(3,1),(4,1)] ∧ tbd Tryz.prog 58 = .st [.i .i64 0,.i .i64 0,.i .i64 0,.i .i64 0,.i .i64 0] [(0,1),(1,1),(2,1),(3,1),(4,1)] ∧ tbd Tryz.prog 60 = .st [.i .i64 0,.i .i64 0,.i .i64 0,.i .i64 0] [(0,1),(1,1),(2,1),(3,1)] ∧ tbd Tryz.prog 99 = .st [.i .i64 0,.i .i64 0,.i .i64 0,.i .i64 0] [(0,1),(1,1),(2,1),(3,1)] ∧ QkX Tryz.prog 4 = some [.t] ∧ tfo Tryz.prog 119 0 = some (0,.one) ∧ tfo Tryz.prog 119 1 = some (1,.one) ∧ tfo Tryz.prog 121 0 = some (0,.one) ∧ tfo Tryz.prog 121 1 = some (1,.one) ∧ tfo Tryz.prog 121 2 = some (2,.one) ∧ tfo Tryz.prog 134 0 = some (0,.one) ∧ tfo Tryz.prog 134 1 = some (1,.one) ∧ tfo Tryz.prog 134 2 = some (2,.one) ∧ tfo Tryz.prog 141 0 = some (0,.one) ∧ tfo Tryz.prog 141 1 = some (1,.one) ∧ tfo Tryz.prog 141 2 = some (2,.one) ∧ tfo Tryz.prog 171 1 = some (1,.one) ∧ tfo Tryz.prog 219 0 = some (0,.one) ∧ tfo Tryz.prog 219 1 = some (1,.one) ∧ tfo Tryz.prog 219 2 = some (2,.one) ∧ tfo Tryz.prog 32 0 = some (0,.one) ∧ tfo Tryz.prog 32 1 = some (1,.one) ∧ tfo Tryz.prog 32 2 = some (2,.one) ∧ tfo Tryz.prog 32 3 = some (3,.one) ∧ tfo Tryz.prog 32 4 = some (4,.one) ∧ tfo Tryz.prog 32 5 = some (5,.one) ∧ tfo Tryz.prog 32 6 = some (6,.one) ∧ tfo Tryz.prog 32 7 = some (7,.one) ∧ tfo Tryz.prog 32 8 = some (8,.one) ∧ tfo Tryz.prog 40 0 = some (0,.one) ∧ tfo Tryz.prog 40 1 = some (1,.one) ∧ tfo Tryz.prog 40 2 = some (2,.one) ∧ tfo Tryz.prog 40 3 = some (3,.one) ∧ tfo Tryz.prog 40 4 = some (4,.one) ∧ tfo Tryz.prog 42 0 = some (0,.agg 5) ∧ tfo Tryz.prog 42 1 = some (5,.one) ∧ tfo Tryz.prog 42 2 = some (6,.one) ∧ tfo Tryz.prog 42 3 = some (7,.one) ∧ tfo Tryz.prog 46 0 = some (0,.one) ∧ tfo Tryz.prog 46 1 = some (1,.agg 8) ∧ tfo Tryz.prog 46 2 = some (9,.one) ∧ tfo Tryz.prog 46 3 = some (10,.one) ∧ tfo Tryz.prog 46 4 = some (11,.one) ∧ tfo Tryz.prog 46 5 = some (12,.one) ∧ tfo Tryz.prog 46 6 = some (13,.one) ∧ tfo Tryz.prog 53 0 = some (0,.one) ∧ tfo Tryz.prog 53 1 = some (1,.one) ∧ tfo Tryz.prog 53 2 = some (2,.one) ∧ tfo Tryz.prog 53 3 = some (3,.one) ∧ tfo Tryz.prog 53 4 = some (4,.one) ∧ tfo Tryz.prog 58 0 = some (0,.one) ∧ tfo Tryz.prog 58 1 = some (1,.one) ∧ tfo Tryz.prog 58 2 = some (2,.one) ∧ tfo Tryz.prog 58 3 = some (3,.one) ∧ tfo Tryz.prog 58 4 = some (4,.one) ∧ tfo Tryz.prog 60 0 = some (0,.one) ∧ tfo Tryz.prog 60 1 = some (1,.one) ∧ tfo Tryz.prog 60 2 = some (2,.one) ∧ tfo Tryz.prog 60 3 = some (3,.one) ∧ tfo Tryz.prog 99 0 = some (0,.one) ∧ tfo Tryz.prog 99 1 = some (1,.one) ∧ tfo Tryz.prog 99 2 = some (2,.one) ∧ tfo Tryz.prog 99 3 = some (3,.one) ∧ ti Tryz.prog 168 = .sl 171 2 ∧ ti Tryz.prog 210 = .sl 4 1 ∧ ti Tryz.prog 22 = .sl 5 1 ∧ ti Tryz.prog 24 = .sl 42 8 ∧ ti Tryz.prog 25 = .sl 121 3 ∧ ti Tryz.prog 26 = .sl 141 3 ∧ ti Tryz.prog 263 = .sl 49 1 ∧ ti Tryz.prog 27 = .sl 58 5 ∧ ti Tryz.prog 28 = .sl 60 4 ∧ ti Tryz.prog 29 = .sl 53 5 ∧ ti Tryz.prog 3 = .int .i64 ∧ ti Tryz.prog 30 = .sl 99 4 ∧ ti Tryz.prog 33 = .sl 46 14 ∧ ti Tryz.prog 43 = .sl 119 2 ∧ ti Tryz.prog 44 = .sl 219 3 ∧ ti Tryz.prog 49 = .sl 3 1 ∧ tk Tryz.prog 119 = .agg 2 ∧ tk Tryz.prog 121 = .agg 3 ∧ tk Tryz.prog 141 = .agg 3 ∧ tk Tryz.prog 219 = .agg 3 ∧ tk Tryz.prog 22 = .one ∧ tk Tryz.prog 24 = .one ∧ tk Tryz.prog 25 = .one ∧ tk Tryz.prog 26 = .one ∧ tk Tryz.prog 27 = .one ∧ tk Tryz.prog 28 = .one ∧ tk Tryz.prog 29 = .one ∧ tk Tryz.prog 3 = .one ∧ tk Tryz.prog 30 = .one ∧ tk Tryz.prog 32 = .agg 9 ∧ tk Tryz.prog 4 = .one ∧ tk Tryz.prog 40 = .agg 5 ∧ tk Tryz.prog 42 = .agg 8 ∧ tk Tryz.prog 43 = .one ∧ tk Tryz.prog 44 = .one ∧ tk Tryz.prog 46 = .agg 14 ∧ tk Tryz.prog 49 = .one ∧ tk Tryz.prog 5 = .one ∧ tk Tryz.prog 53 = .agg 5 ∧ tk Tryz.prog 58 = .agg 5 ∧ tk Tryz.prog 60 = .agg 4 ∧ tk Tryz.prog 99 = .agg 4 ∧ Qba Tryz.prog 24 = true ∧ Qba Tryz.prog 25 = true ∧ Qba Tryz.prog 26 = true ∧ Qba Tryz.prog 27 = true ∧ Qba Tryz.prog 28 = true ∧ Qba Tryz.prog 29 = true ∧ Qba Tryz.prog 30 = true ∧ Qba Tryz.prog 33 = true ∧ Qba Tryz.prog 43 = true ∧ Qba Tryz.prog 44 = true ∧ Qba Tryz.prog 49 = true ∧ tok Tryz.prog 5 = true ∧ tse Tryz.prog 168 = some (171,2,[.i .i64 0,.i .i64 0]) ∧ tse Tryz.prog 210 = some (4,1,[.b false]) ∧ tse Tryz.prog 24 = some (42,8,[.i .i64 0,.i .i64 0,.i .i64 0,.i .i64 0,.i .i64 0,.i .i64 0,.i .i64 0,.i .i64 0]) ∧ tse Tryz.prog 25 = some (121,3,[.i .i64 0,.nil,.i .i64 0]) ∧ tse Tryz.prog 26 = some (141,3,[.i .i64 0,.i .i64 0,.i .i64 0]) ∧ tse Tryz.prog 263 = some (49,1,[.nil]) ∧ tse Tryz.prog 27 = some (58,5,[.i .i64 0,.i .i64 0,.i .i64 0,.i .i64 0,.i .i64 0]) ∧ tse Tryz.prog 28 = some (60,4,[.i .i64 0,.i .i64 0,.i .i64 0,.i .i64 0]) ∧ tse Tryz.prog 29 = some (53,5,[.i .i64 0,.i .i64 0,.i .i64 0,.i .i64 0,.i .i64 0]) ∧ tse Tryz.prog 30 = some (99,4,[.i .i64 0,.i .i64 0,.i .i64 0,.i .i64 0]) ∧ tse Tryz.prog 33 = some (46,14,[.i .i64 0,.i .i64 0,.i .i64 0,.i .i64 0,.i .i64 0,.i .i64 0,.i .i64 0,.i .i64 0,.i .i64 0,.nil,.i .i64 0,.i .i64 0,.i .i64 0,.nil]) ∧ tse Tryz.prog 43 = some (119,2,[.i .i64 0,.i .i64 0]) ∧ tse Tryz.prog 44 = some (219,3,[.i .i64 0,.i .i64 0,.i .i64 0]) ∧ tse Tryz.prog 49 = some (3,1,[.i .i64 0]) ∧ tzc Tryz.prog 119 = some [.i .i64 0,.i .i64 0] ∧ tzc Tryz.prog 121 = some [.i .i64 0,.nil,.i .i64 0] ∧ tzc Tryz.prog 141 = some [.i .i64 0,.i .i64 0,.i .i64 0] ∧ tzc Tryz.prog 219 = some [.i .i64 0,.i .i64 0,.i .i64 0] ∧ tzc Tryz.prog 32 = some [.i .i64 0,.nil,.nil,.nil,.nil,.nil,.nil,.nil,.i .i64 0] ∧ tzc Tryz.prog 40 = some [.i .i64 0,.i .i64 0,.i .i64 0,.i .i64 0,.i .i64 0] ∧ tzc Tryz.prog 42 = some [.i .i64 0,.i .i64 0,.i .i64 0,.i .i64 0,.i .i64 0,.i .i64 0,.i .i64 0,.i .i64 0] ∧ tzc Tryz.prog 46 = some [.i .i64 0,.i .i64 0,.i .i64 0,.i .i64 0,.i .i64 0,.i .i64 0,.i .i64 0,.i .i64 0,.i .i64 0,.nil,.i .i64 0,.i .i64 0,.i .i64 0,.nil] ∧ tzc Tryz.prog 53 = some [.i .i64 0,.i .i64 0,.i .i64 0,.i .i64 0,.i .i64 0] ∧ tzc Tryz.prog 58 = some [.i .i64 0,.i .i64 0,.i .i64 0,.i .i64 0,.i .i64 0] ∧ tzc Tryz.prog 60 = some [.i .i64 0,.i .i64 0,.i .i64 0,.i .i64 0] ∧ tzc Tryz.prog 99 = some [.i .i64 0,.i .i64 0,.i .i64 0,.i .i64 0]:=by and_intros <;> kernel_rfl
def xt (g : Nat) (args : List AV) : Option AV:=match args with
 | [.nil,.i .i64 x]=>if g = 269 then (Zv x).map fun r=>.own 1 (r.map Q2) else none
 | _=>none
def mt (g : Nat) (K : KS) (args : List AV) : Option AV:=mtI [(119,(4,32)),(178,(8,64)),(179,(3,40)),(183,(5,40))] g K args
def An3 : Ann:={ ord:=[(4,[0,2,1,3,4]),(12,[0,1,2,3,4,6,7,8,9,5,10,11,12,13])],fz:=[(4,[4])],jn:=[(12,(57,44,57)),(19,(97,78,97)),(21,(114,98,114)),(28,(156,134,156))],lp:=[(8,⟨[4,5,6],[.s 5 0,.c 0 1 8,.c 0 2 3,.c 0 3 3,.c 0 4 5,.c 0 5 4,.c 0 6 5,.c 0 7 4],[5],[.s 5 0,.c 0 1 8,.c 0 2 3,.c 0 3 3,.c 0 4 5,.c 0 5 4,.c 0 6 5,.c 0 7 4]⟩),(15,⟨[4,5,6,7,8],[.s 5 0,.c 0 1 8,.c 0 2 3,.c 0 3 3,.c 0 4 5,.c 0 5 4,.c 0 6 5,.c 0 7 4,.s 7 0,.c 8 1 8,.c 8 2 3,.c 8 3 3,.c 8 4 5,.c 8 5 4,.c 8 6 5,.c 8 7 4],[4,5,6],[.s 5 0,.c 0 1 8,.c 0 2 3,.c 0 3 3,.c 0 4 5,.c 0 5 4,.c 0 6 5,.c 0 7 4]⟩),(24,⟨[5,11],[.s 5 0,.c 0 1 8,.c 0 2 3,.c 0 3 3,.c 0 4 5,.c 0 5 4,.c 0 6 5,.c 0 7 4],[],[]⟩)],rt:=⟨[2],[],[],[]⟩ }
def An5 : Ann:={}
def An6 : Ann:={ ot:=[(3,.one 1 (.alt (.one 0 (.one 2 (.one 3 (.one 4 (.done))))) (.one 2 (.one 0 (.one 3 (.one 4 (.done)))))))],av:=[(1,[30]),(2,[31]),(3,[32])],sh:=[.a [0,8,3,3,5,4,5,4,0],.z 14] }
def An7 : Ann:={ ord:=[(1,[0,1,2,3,4,5,6,7,8,9,10,11,12,13,14,15,16,17,18,19,20,21,22,23,24,25,26,27,28,29,30,31,32,33,34,35,36,37,38,39,40,41,42,44,45,43,46,47,48,49,50,51,52,53])],jn:=[(1,(2,3,56))] }
def An8 : Ann:={ jn:=[(1,(48,3,48)),(3,(86,49,86)),(5,(2,87,93))] }
def An9 : Ann:={ sh:=[.a [0,8,3,3,5,4,5,4,0],.n] }
def QAu : Ann:={}
def Qv8 : Ann:={ lp:=[(4,⟨[0,1,5],[],[],[]⟩)],rt:=⟨[4],[],[],[]⟩ }
def Qw3 : Ann:={ lp:=[(3,⟨[1,3,8,9,10],[.s 1 0,.s 3 1],[3],[.s 3 1]⟩)],sh:=[.z 1] }
def Qxs : Ann:={ ac:=[(10,0)],jn:=[(7,(36,20,36))],lp:=[(5,⟨[0,1,5,13,14,15],[.s 5 1],[5],[.s 5 1]⟩)],sh:=[.z 1] }
def QBd : Ann:={}
def QBY : Ann:={ jn:=[(4,(16,17,26)),(6,(26,27,35)),(8,(35,36,44))] }
def QAe : Ann:={ jn:=[(2,(4,14,27))] }
def QzV : Ann:={}
def QA7 : Ann:={}
def QAn : Ann:={ sh:=[.z 2] }
def Qxa : Ann:={ nr:=some [.s 32 0],jn:=[(3,(15,8,15))],lp:=[(3,⟨[0,3,4],[],[0,3],[]⟩)] }
def Qz3 : Ann:={ nr:=some [.r 0,.g 15 1 8,.g 15 2 3,.g 15 3 3,.g 15 4 5,.g 15 5 4,.g 15 6 5,.g 15 7 4],ak:=[0],av:=[(1,[77,91])],sh:=[.a [0,8,3,3,5,4,5,4,0]] }
def Qxz : Ann:={ nr:=some [.r 0,.s 26 14],ak:=[0],av:=[(1,[92]),(2,[77]),(5,[93])],lp:=[(3,⟨[0,5,6],[.s 0 0,.s 5 14],[0,5],[.s 0 0,.s 5 14]⟩)],sh:=[.z 14] }
def Qz5 : Ann:={ jn:=[(1,(6,7,15))] }
def QwP : Ann:={ jn:=[(6,(34,15,34))],lp:=[(4,⟨[0,8,9,10],[],[],[]⟩)],rt:=⟨[2],[],[],[]⟩ }
def Qx6 : Ann:={ jn:=[(6,(51,15,51))],lp:=[(4,⟨[0,8,9,10],[],[],[]⟩)],rt:=⟨[2],[],[],[]⟩ }
def Qww : Ann:={ jn:=[(6,(54,15,54))],lp:=[(4,⟨[0,8,9,10],[],[],[]⟩)],rt:=⟨[2],[],[],[]⟩ }
def Qva : Ann:={ jn:=[(6,(59,17,59)),(11,(82,68,82))],lp:=[(4,⟨[0,10,11,12],[],[],[]⟩),(9,⟨[0,4,10,11,12,62,63,64],[.s 4 0],[0,10,11,12],[]⟩)],rt:=⟨[2],[],[],[]⟩ }
def Qwe : Ann:={ jn:=[(7,(61,17,61)),(13,(83,73,83))],lp:=[(5,⟨[0,3,10,11,12],[],[],[]⟩)],rt:=⟨[2],[],[],[]⟩ }
def Qyx : Ann:={ jn:=[(6,(58,15,58))],lp:=[(4,⟨[0,8,9,10],[],[],[]⟩)],rt:=⟨[2],[],[],[]⟩ }
def Qsd : Ann:={ ord:=[(7,[0,1,2,3,4,5,6,7,8,9,10,11,12,13,14,15,18,19,20,21,16,17,22,23,24])],jn:=[(7,(54,30,54)),(13,(73,63,73))],lp:=[(5,⟨[1,3,23,24,25],[.s 1 0,.s 3 1],[1,3],[.s 1 0,.s 3 1]⟩),(11,⟨[1,3,57,58,59],[.s 1 0,.s 3 1],[1,3],[.s 1 0,.s 3 1]⟩),(17,⟨[1,75,76,77],[.s 1 0,.s 75 1],[],[]⟩)],rt:=⟨[2],[],[],[]⟩ }
def QxP : Ann:={ ord:=[(7,[0,1,2,3,4,5,6,7,8,9,10,11,12,13,14,15,16,17,18,19,20,21,22,24,26,27,23,25,28,29,30])],jn:=[(7,(56,26,56))],lp:=[(4,⟨[1,14,15,16],[.s 1 0],[],[]⟩)],rt:=⟨[2],[],[],[]⟩ }
def Qp3 : Ann:={ lp:=[(3,⟨[1,3,13,14,15],[.s 1 0],[1,3],[.s 1 0]⟩),(8,⟨[1,3,25,26,27],[.s 1 0],[1,3],[.s 1 0]⟩),(13,⟨[1,3,37,38,39],[.s 1 0],[1,3],[.s 1 0]⟩),(18,⟨[3,49,50,51],[],[3],[]⟩)] }
def QzH : Ann:={ jn:=[(1,(6,7,15))] }
def Qzf : Ann:={ jn:=[(4,(35,10,35))],lp:=[(2,⟨[0,3],[],[0],[]⟩)],rt:=⟨[2],[],[],[]⟩ }
def Qx5 : Ann:={ jn:=[(4,(61,10,61))],lp:=[(2,⟨[0,3],[],[0],[]⟩)],rt:=⟨[2],[],[],[]⟩ }
def Qvz : Ann:={ jn:=[(4,(53,11,53)),(9,(77,59,77))],lp:=[(2,⟨[0,3],[],[0],[]⟩),(7,⟨[0,3,4],[],[0,3],[]⟩)],rt:=⟨[2],[],[],[]⟩ }
def QuP : Ann:={ jn:=[(5,(58,16,58)),(10,(84,64,84))],lp:=[(2,⟨[0,3],[],[0],[]⟩),(8,⟨[0,3,4,5],[.s 4 0],[0,3],[]⟩)],rt:=⟨[2],[],[],[]⟩ }
def Qy5 : Ann:={ jn:=[(3,(15,7,15)),(7,(67,25,67)),(10,(96,73,96))],lp:=[(3,⟨[0,3,4],[],[0],[]⟩)],rt:=⟨[2],[],[],[]⟩ }
def Qx7 : Ann:={ jn:=[(5,(58,15,58))],lp:=[(2,⟨[0,3],[],[0],[]⟩)],rt:=⟨[2],[],[],[]⟩ }
def QrN : Ann:={ ord:=[(13,[0,1,2,3,4,5,6,7,8,9,10,11,14,15,12,13,16,17,18,19,20,21,22,23,24,25,26,27,28,29])],jn:=[(13,(77,48,77)),(18,(103,85,103))],lp:=[(5,⟨[1,3,4],[.s 1 0,.s 3 1],[1,3],[.s 1 0,.s 3 1]⟩),(10,⟨[1,3,5],[.s 1 0,.s 3 1],[1],[.s 1 0]⟩),(16,⟨[1,7],[.s 1 0],[],[]⟩)],rt:=⟨[2],[],[],[]⟩ }
def Qw2 : Ann:={ ord:=[(8,[0,1,2,3,4,5,6,7,8,9,10,11,12,13,14,15,16,17,18,19,20,21,22,23,24,25,26,27,28,29,30,32,33,34,35,36,38,31,37,39,40,41,42,43,44,45,46,47])],jn:=[(8,(77,30,77))],lp:=[(4,⟨[1,3],[.s 1 0],[],[]⟩)],rt:=⟨[2],[],[],[]⟩ }
def Qzp : Ann:={ av:=[(6,[117])],sh:=[.a [0,8,3,3,5,4,5,4,0],.n] }
def QBa : Ann:={ ot:=[(5,.one 0 (.one 1 (.one 2 (.one 3 (.one 4 (.one 6 (.one 7 (.alt (.one 5 (.one 8 (.one 9 (.one 10 (.one 11 (.done)))))) (.one 8 (.one 5 (.one 9 (.one 10 (.one 11 (.done))))))))))))))],av:=[(5,[119]),(6,[117])],jn:=[(3,(40,27,40))],sh:=[.a [0,8,3,3,5,4,5,4,0],.n] }
def QAd : Ann:={ av:=[(12,[117])],jn:=[(3,(33,18,33))],sh:=[.a [0,8,3,3,5,4,5,4,0],.n] }
def QBA : Ann:={ av:=[(12,[117])],jn:=[(3,(30,25,30))],sh:=[.a [0,8,3,3,5,4,5,4,0],.n] }
def QAb : Ann:={ av:=[(11,[117])],jn:=[(3,(42,28,42)),(9,(80,68,80))],sh:=[.a [0,8,3,3,5,4,5,4,0],.n] }
def QBH : Ann:={ av:=[(11,[117])],sh:=[.a [0,8,3,3,5,4,5,4,0],.n] }
def Qz1 : Ann:={ av:=[(3,[117])],sh:=[.a [0,8,3,3,5,4,5,4,0],.n] }
def QBZ : Ann:={ ord:=[(1,[0,1,3,4,6,7,9,10,2,12,5,8,11,13,14,15,16,17,18,19]),(2,[0,1,3,4,6,7,2,9,5,8,10,11,12,13,14])],sh:=[.a [0,8,3,3,5,4,5,4,0]] }
def QxW : Ann:={ jn:=[(6,(38,22,38))],lp:=[(3,⟨[1,3,13,14,15],[.s 1 0,.s 3 1],[],[]⟩)],rt:=⟨[2],[],[],[]⟩ }
def QwO : Ann:={ jn:=[(4,(20,13,20)),(6,(38,26,38))],lp:=[(2,⟨[1,7,8,9],[.s 1 0],[],[]⟩)],rt:=⟨[2],[],[],[]⟩ }
def Qyh : Ann:={ jn:=[(4,(20,13,20)),(6,(38,26,38))],lp:=[(2,⟨[1,7,8,9],[.s 1 0],[],[]⟩)],rt:=⟨[2],[],[],[]⟩ }
def Qv3 : Ann:={ jn:=[(7,(2,21,29))],lp:=[(3,⟨[1,3,8,9,10],[.s 1 0,.s 8 1],[1,3],[.s 1 0]⟩)] }
def QB9 : Ann:={}
def QwX : Ann:={ lp:=[(2,⟨[0,1,5],[],[],[]⟩)],rt:=⟨[4],[],[],[]⟩ }
def Qwv : Ann:={ lp:=[(2,⟨[0,1,7,8],[],[],[]⟩)],rt:=⟨[4],[],[],[]⟩ }
def QzI : Ann:={}
def Qza : Ann:={ jn:=[(6,(35,16,35))],lp:=[(4,⟨[1,5,6,10,11,12],[.s 5 0],[5],[.s 5 0]⟩)] }
def QBI : Ann:={ jn:=[(1,(4,5,13))] }
def Quw : Ann:={}
def QCg : Ann:={ jn:=[(1,(3,4,14))] }
def QAB : Ann:={}
def QB6 : Ann:={}
def Qzz : Ann:={}
def QB2 : Ann:={ sh:=[.z 2] }
def QBb : Ann:={ ak:=[0],av:=[(4,[149]),(5,[149]),(6,[149]),(7,[149])] }
def QCm : Ann:={ jn:=[(2,(20,11,20))],sh:=[.a [0,8,3,3,5,4,5,4,0],.n] }
def Qym : Ann:={ nr:=some [.r 0,.s 23 3],ak:=[0],av:=[(3,[77]),(5,[77])],lp:=[(3,⟨[0,3,4],[.s 0 0,.s 3 3],[0,3],[.s 0 0,.s 3 3]⟩)],sh:=[.z 3] }
def Qzq : Ann:={ ot:=[(5,.one 1 (.one 4 (.alt (.one 0 (.one 2 (.alt (.one 3 (.one 5 (.one 6 (.one 7 (.one 8 (.one 9 (.done))))))) (.one 5 (.one 3 (.one 6 (.one 7 (.one 8 (.one 9 (.done)))))))))) (.one 2 (.alt (.one 0 (.alt (.one 3 (.one 5 (.one 6 (.one 7 (.one 8 (.one 9 (.done))))))) (.one 5 (.one 3 (.one 6 (.one 7 (.one 8 (.one 9 (.done))))))))) (.alt (.one 3 (.alt (.one 0 (.one 5 (.one 6 (.one 7 (.one 8 (.one 9 (.done))))))) (.one 5 (.one 0 (.one 6 (.one 7 (.one 8 (.one 9 (.done))))))))) (.one 5 (.one 0 (.one 3 (.one 6 (.one 7 (.one 8 (.one 9 (.done))))))))))))))],nr:=some [.r 0,.g 29 9 2,.g 29 13 3],ak:=[0],av:=[(1,[168]),(3,[77]),(4,[153]),(5,[77])],sh:=[.a [0,0,0,0,0,0,0,0,0,2,0,0,0,3]] }
def QzP : Ann:={ nr:=some [.r 0,.g 45 9 2,.g 45 13 3],ak:=[0],av:=[(1,[77,153]),(4,[77,92]),(6,[77]),(8,[169]),(10,[153])],sh:=[.a [0,0,0,0,0,0,0,0,0,2,0,0,0,3]] }
def Qzt : Ann:={ jn:=[(1,(2,3,21))] }
def QyH : Ann:={ jn:=[(6,(39,15,39))],lp:=[(4,⟨[0,8,9,10],[],[],[]⟩)],rt:=⟨[2],[],[],[]⟩ }
def QAY : Ann:={}
def QCj : Ann:={}
def Qz8 : Ann:={}
def QAR : Ann:={ jn:=[(1,(2,3,26))] }
def Qs8 : Ann:={ jn:=[(1,(5,6,19)),(3,(19,20,30))] }
def Qtg : Ann:={}
def QsB : Ann:={ jn:=[(1,(2,3,21))] }
def Qpr : Ann:={ jn:=[(4,(43,10,43))],lp:=[(2,⟨[0,3],[],[0],[]⟩)],rt:=⟨[2],[],[],[]⟩ }
def Quj : Ann:={}
def Qqy : Ann:={ lp:=[(3,⟨[0,1,2,7,8],[],[7],[]⟩)] }
def Qp9 : Ann:={ jn:=[(3,(16,9,16)),(6,(42,28,42))],lp:=[(3,⟨[0,1,5,6],[.s 5 1],[5],[.s 5 1]⟩)],sh:=[.z 1] }
def QpR : Ann:={ lp:=[(2,⟨[0,1,5],[],[],[]⟩)],rt:=⟨[4],[],[],[]⟩ }
def QqB : Ann:={ jn:=[(4,(22,12,22))],lp:=[(2,⟨[0,1,5],[],[],[]⟩)],rt:=⟨[4],[],[],[]⟩ }
def Qqq : Ann:={ lp:=[(2,⟨[0,1,5],[],[],[]⟩)],rt:=⟨[4],[],[],[]⟩ }
def QsI : Ann:={ jn:=[(1,(2,3,26))] }
def QtU : Ann:={ jn:=[(1,(5,6,19)),(3,(19,20,30))] }
def QsA : Ann:={ sh:=[.z 2] }
def Qo9 : Ann:={ av:=[(7,[178])],jn:=[(5,(32,17,32))],lp:=[(5,⟨[0,3,6,7],[.s 3 0,.s 6 8],[0,3,6,7],[.s 3 0,.s 6 8]⟩)],sh:=[.z 8,.n] }
def Qqv : Ann:={ av:=[(8,[179])],jn:=[(5,(29,16,29))],lp:=[(5,⟨[0,3,6,7],[.s 3 0,.s 6 3],[0,3,6,7],[.s 3 0,.s 6 3]⟩)],sh:=[.z 3,.n] }
def Qty : Ann:={ jn:=[(3,(32,14,32))],sh:=[.z 3,.n] }
def Qth : Ann:={ ot:=[(5,.one 0 (.one 2 (.alt (.one 1 (.one 3 (.one 4 (.one 5 (.done))))) (.one 3 (.one 1 (.one 4 (.one 5 (.done))))))))],sh:=[.z 5,.n] }
def Qnt : Ann:={ jn:=[(1,(19,8,19))],sh:=[.a [0,8,3,3,5,4,5,4,0],.n] }
def QpJ : Ann:={ av:=[(7,[183])],jn:=[(2,(24,10,24)),(5,(39,26,39))],lp:=[(5,⟨[0,3,6,7],[.s 3 0,.s 6 5],[0,3,6,7],[.s 3 0,.s 6 5]⟩)],sh:=[.z 5,.n] }
def QtF : Ann:={}
def QsX : Ann:={ jn:=[(3,(22,16,22)),(6,(47,29,47))],sh:=[.z 5,.n] }
def Qun : Ann:={ jn:=[(2,(24,11,24))] }
def Qtr : Ann:={ sh:=[.a [0,8,3,3,5,4,5,4,0],.n] }
def QsW : Ann:={ jn:=[(1,(12,5,12))] }
def Quk : Ann:={ ot:=[(1,.one 0 (.one 2 (.alt (.one 1 (.one 3 (.one 4 (.one 5 (.done))))) (.one 3 (.one 1 (.one 4 (.one 5 (.done))))))))],sh:=[.z 4,.n] }
def QtE : Ann:={ jn:=[(1,(12,5,12))] }
def QsH : Ann:={ sh:=[.z 2] }
def QtA : Ann:={ sh:=[.z 8] }
def QpF : Ann:={ lp:=[(3,⟨[3,7,8,9],[.s 3 3],[3],[.s 3 3]⟩)],sh:=[.z 3] }
def Qsx : Ann:={ sh:=[.z 3] }
def QsC : Ann:={ sh:=[.z 5] }
def Qtv : Ann:={ sh:=[.z 4] }
def QtW : Ann:={ sh:=[.z 5] }
def Qto : Ann:={ sh:=[.z 4] }
def QsD : Ann:={ jn:=[(1,(4,5,14))] }
def QpD : Ann:={ lp:=[(3,⟨[3,7,8,9],[.s 3 1],[3],[.s 3 1]⟩)],sh:=[.z 1] }
def Qt3 : Ann:={}
def Qqg : Ann:={ lp:=[(2,⟨[0,1,7,8],[],[],[]⟩)],rt:=⟨[4],[],[],[]⟩ }
def Que : Ann:={}
def QsK : Ann:={}
def Qgm : Ann:={ lp:=[(2,⟨[0,1,7,8],[],[],[]⟩)],rt:=⟨[4],[],[],[]⟩ }
def QsN : Ann:={}
def QqP : Ann:={ lp:=[(2,⟨[0,1,7,8],[],[],[]⟩)],rt:=⟨[4],[],[],[]⟩ }
def QsR : Ann:={}
def Qpx : Ann:={ lp:=[(2,⟨[0,1,7,8],[],[],[]⟩)],rt:=⟨[4],[],[],[]⟩ }
def Qtn : Ann:={}
def Qt6 : Ann:={ ot:=[(2,.one 0 (.one 5 (.alt (.one 1 (.alt (.one 2 (.alt (.one 3 (.one 4 (.one 6 (.one 7 (.one 8 (.one 9 (.one 10 (.one 11 (.one 12 (.done)))))))))) (.one 6 (.one 3 (.one 4 (.one 7 (.one 8 (.one 9 (.one 10 (.one 11 (.one 12 (.done)))))))))))) (.one 6 (.one 2 (.one 3 (.one 4 (.one 7 (.one 8 (.one 9 (.one 10 (.one 11 (.one 12 (.done))))))))))))) (.one 6 (.alt (.one 1 (.one 2 (.one 3 (.one 4 (.one 7 (.one 8 (.one 9 (.one 10 (.one 11 (.one 12 (.done))))))))))) (.one 7 (.alt (.one 1 (.one 2 (.one 3 (.one 4 (.one 8 (.one 9 (.one 10 (.one 11 (.one 12 (.done)))))))))) (.one 8 (.one 9 (.one 1 (.one 2 (.one 3 (.one 4 (.one 10 (.one 11 (.one 12 (.done))))))))))))))))),(3,.one 0 (.one 4 (.alt (.one 1 (.alt (.one 2 (.alt (.one 3 (.one 5 (.one 6 (.one 7 (.one 8 (.one 9 (.done))))))) (.one 5 (.one 3 (.one 6 (.one 7 (.one 8 (.one 9 (.done))))))))) (.one 5 (.one 2 (.one 3 (.one 6 (.one 7 (.one 8 (.one 9 (.done)))))))))) (.one 5 (.alt (.one 1 (.one 2 (.one 3 (.one 6 (.one 7 (.one 8 (.one 9 (.done)))))))) (.one 6 (.alt (.one 1 (.one 2 (.one 3 (.one 7 (.one 8 (.one 9 (.done))))))) (.one 7 (.alt (.one 1 (.one 2 (.one 3 (.one 8 (.one 9 (.done)))))) (.one 8 (.one 1 (.one 2 (.one 3 (.one 9 (.done))))))))))))))),(4,.one 0 (.one 1 (.one 5 (.alt (.one 2 (.alt (.one 3 (.alt (.one 4 (.one 6 (.one 7 (.one 8 (.one 9 (.one 10 (.one 11 (.one 12 (.one 13 (.one 14 (.done))))))))))) (.one 6 (.one 4 (.one 7 (.one 8 (.one 9 (.one 10 (.one 11 (.one 12 (.one 13 (.one 14 (.done))))))))))))) (.one 6 (.one 3 (.one 4 (.one 7 (.one 8 (.one 9 (.one 10 (.one 11 (.one 12 (.one 13 (.one 14 (.done)))))))))))))) (.one 6 (.alt (.one 2 (.one 3 (.one 4 (.one 7 (.one 8 (.one 9 (.one 10 (.one 11 (.one 12 (.one 13 (.one 14 (.done)))))))))))) (.one 7 (.alt (.one 2 (.one 3 (.one 4 (.one 8 (.one 9 (.one 10 (.one 11 (.one 12 (.one 13 (.one 14 (.done))))))))))) (.one 8 (.one 2 (.one 3 (.one 4 (.one 9 (.one 10 (.one 11 (.one 12 (.one 13 (.one 14 (.done)))))))))))))))))))],ak:=[0] }
def Qsy : Ann:={ ord:=[(1,[0,1,2,3,4,6,7,9,10,11,13,14,15,17,18,19,21,22,23,25,26,27,29,30,5,8,12,16,20,24,28,31,32])],eb:=[(1,[5,12,16,20,24,28])],sh:=[.a [0,8,3,3,5,4,5,4,0]] }
def QsL : Ann:={ ak:=[0,1],av:=[(1,[77])] }
def Qte : Ann:={}
def QtB : Ann:={ ac:=[(2,0),(3,0)],sh:=[.z 1] }
def QpG : Ann:={ lp:=[(3,⟨[0,3,4],[],[3],[]⟩)] }
def Qs3 : Ann:={ ak:=[0],av:=[(1,[77,225])] }
def QqO : Ann:={ nr:=some [.r 0,.s 57 3],ak:=[0],av:=[(3,[77]),(5,[77]),(9,[77]),(10,[77]),(12,[153]),(14,[153])],lp:=[(3,⟨[0,3,4],[.s 0 0,.s 3 3],[0,3],[.s 0 0,.s 3 3]⟩)],sh:=[.z 3] }
def QtY : Ann:={ jn:=[(1,(2,3,26))] }
def QpN : Ann:={ lp:=[(3,⟨[3,6,7,8],[],[3],[]⟩)] }
def QpY : Ann:={ lp:=[(2,⟨[0,1,7,8],[],[],[]⟩)],rt:=⟨[4],[],[],[]⟩ }
def Qs1 : Ann:={ jn:=[(1,(2,3,26))] }
def QqE : Ann:={ lp:=[(3,⟨[0,3,4],[],[3],[]⟩)] }
def Qpg : Ann:={ ot:=[(6,.one 1 (.one 2 (.one 3 (.one 5 (.one 8 (.one 9 (.one 10 (.alt (.one 0 (.alt (.one 4 (.one 6 (.one 7 (.one 11 (.one 12 (.done)))))) (.one 6 (.one 4 (.one 7 (.one 11 (.one 12 (.done)))))))) (.one 6 (.one 0 (.one 4 (.one 7 (.one 11 (.one 12 (.done)))))))))))))))],jn:=[(2,(17,6,17)),(4,(31,20,31))],lp:=[(2,⟨[0,1,5],[],[0,1,5],[]⟩)],sh:=[.z 1] }
def Quo : Ann:={}
def Qp6 : Ann:={ lp:=[(2,⟨[0,1,5],[],[],[]⟩)],rt:=⟨[4],[],[],[]⟩ }
def Qps : Ann:={ jn:=[(5,(37,15,37))],lp:=[(3,⟨[0,1,5,8,9,10],[],[5],[]⟩)] }
def QtZ : Ann:={}
def QsG : Ann:={ jn:=[(1,(3,4,16))] }
def Qsr : Ann:={}
def QqF : Ann:={ lp:=[(2,⟨[1,7,8,9],[],[],[]⟩)],rt:=⟨[4],[],[],[]⟩ }
def Qsw : Ann:={ jn:=[(3,(19,13,19))],sh:=[.z 3,.n] }
def Qpk : Ann:={ jn:=[(6,(24,15,24))],lp:=[(4,⟨[0,8,9,10],[],[],[]⟩)],rt:=⟨[2],[],[],[]⟩ }
def QsF : Ann:={ ac:=[(2,0)],sh:=[.z 3] }
def Qmo : Ann:={ jn:=[(2,(23,15,23))],lp:=[(6,⟨[0,1,5,6,25,26,27],[.s 5 1],[0,1,5,6],[.s 5 1]⟩),(16,⟨[0,5,6,9,43,44,45],[.s 5 1],[5,9],[.s 5 1]⟩),(23,⟨[5,9,13],[.s 5 1],[5],[.s 5 1]⟩)],rt:=⟨[4],[.s 4 1],[],[]⟩,sh:=[.z 1] }
def QtG : Ann:={ jn:=[(1,(3,4,21))] }
def Qqj : Ann:={ lp:=[(3,⟨[1,5,8,9,10],[],[5],[]⟩)] }
def QpV : Ann:={ lp:=[(5,⟨[1,5,12,13,14],[],[5],[]⟩)] }
def QsQ : Ann:={}
def Qp7 : Ann:={ ord:=[(5,[0,1,2,3,4,5,6,7,8,9,10,11,13,14,15,16,17,12,18,19,20,21])],eb:=[(5,[18])],lp:=[(3,⟨[0,3,4],[.s 3 3],[3],[.s 3 3]⟩)],sh:=[.z 3] }
def QnK : Ann:={ lp:=[(3,⟨[0,3,9,10,11],[],[0,3],[]⟩),(11,⟨[6,25,26,27],[.s 6 1],[6],[.s 6 1]⟩)],sh:=[.z 1] }
def Quq : Ann:={ ak:=[0],av:=[(1,[77])] }
def Qtd : Ann:={}
def Qtk : Ann:={}
def Qt4 : Ann:={}
def Qpp : Ann:={ lp:=[(2,⟨[0,1,7,8],[],[],[]⟩)],rt:=⟨[4],[],[],[]⟩ }
def Qup : Ann:={ jn:=[(1,(19,7,19))] }
def Qs7 : Ann:={ jn:=[(1,(2,3,11))] }
def Qtb : Ann:={}
def QtN : Ann:={}
def Qsv : Ann:={ sh:=[.z 3] }
def Qua : Ann:={ ak:=[0],ac:=[(0,0)] }
def QtV : Ann:={}
def QsO : Ann:={}
def QtP : Ann:={}
def Qt8 : Ann:={}
def Qqt : Ann:={ lp:=[(2,⟨[0,1,7,8],[],[],[]⟩)],rt:=⟨[4],[],[],[]⟩ }
def QmC : Ann:={ ak:=[0],ac:=[(3,0),(6,0)],lp:=[(2,⟨[0,1,2,6,7,8],[.s 0 3],[0,1,2,6,7],[.s 0 3]⟩),(7,⟨[0,1,2,6],[.s 0 3],[0],[.s 0 3]⟩),(9,⟨[0,1,2,6,7,8],[.s 0 3],[0,1,2,6,7],[.s 0 3]⟩)] }
def Qnr : Ann:={ ak:=[0],jn:=[(4,(34,18,34))],lp:=[(1,⟨[0,1,2,3,8],[.s 0 3],[0],[.s 0 3]⟩),(4,⟨[0,1,2,3,8,9],[.s 0 3],[0,1,2,3,8],[.s 0 3]⟩)] }
noncomputable def T : Tld:={ P:=Tryz.prog,ann:=[(3,An3),(5,An5),(6,An6),(7,An7),(8,An8),(9,An9),(10,QAu),(11,Qv8),(12,Qw3),(13,Qxs),(14,QBd),(15,QBY),(16,QAe),(17,QzV),(18,QA7),(19,QAn),(30,Qxa),(31,Qz3),(32,Qxz),(33,Qz5),(34,QwP),(35,Qx6),(36,Qww),(37,Qva),(38,Qwe),(39,Qyx),(40,Qsd),(41,QxP),(42,Qp3),(43,QzH),(44,Qzf),(45,Qx5),(46,Qvz),(47,QuP),(48,Qy5),(49,Qx7),(50,QrN),(51,Qw2),(52,Qzp),(53,QBa),(54,QAd),(55,QBA),(56,QAb),(57,QBH),(58,Qz1),(59,QBZ),(60,QxW),(61,QwO),(62,Qyh),(63,Qv3),(64,QB9),(65,QwX),(67,Qwv),(68,QzI),(69,Qza),(70,QBI),(71,Quw),(72,QCg),(73,QAB),(74,QB6),(75,Qzz),(76,QB2),(77,QBb),(90,QCm),(91,Qym),(92,Qzq),(93,QzP),(94,Qzt),(95,QyH),(96,QAY),(97,QCj),(98,Qz8),(99,QAR),(100,Qs8),(101,Qtg),(102,QsB),(103,Qpr),(104,Quj),(105,Qqy),(106,Qp9),(107,QpR),(108,QqB),(109,Qqq),(110,QsI),(111,QtU),(112,QsA),(113,Qo9),(114,Qqv),(115,Qty),(116,Qth),(117,Qnt),(118,QpJ),(120,QtF),(121,QsX),(122,Qun),(123,Qtr),(124,QsW),(125,Quk),(126,QtE),(127,QsH),(128,QtA),(129,QpF),(130,Qsx),(131,QsC),(132,Qtv),(133,QtW),(134,Qto),(135,QsD),(136,QpD),(137,Qt3),(138,Qqg),(139,Que),(142,QsK),(143,Qgm),(144,QsN),(145,QqP),(146,QsR),(147,Qpx),(148,Qtn),(149,Qt6),(150,Qsy),(153,QsL),(157,Qte),(166,QtB),(167,QpG),(168,Qs3),(169,QqO),(170,QtY),(171,QpN),(172,QpY),(173,Qs1),(174,QqE),(175,Qpg),(176,Quo),(177,Qp6),(180,Qps),(181,QtZ),(182,QsG),(186,Qsr),(187,QqF),(188,Qsw),(189,Qpk),(190,QsF),(191,Qmo),(192,QtG),(193,Qqj),(194,QpV),(206,QsQ),(207,Qp7),(223,QnK),(225,Quq),(226,Qtd),(227,Qtk),(228,Qt4),(233,Qpp),(237,Qup),(238,Qs7),(239,Qtb),(240,QtN),(241,Qsv),(242,Qua),(243,QtV),(244,QsO),(250,QtP),(270,Qt8),(275,Qqt),(276,QmC),(289,Qnr)],xt:=xt,st:=fun g=>Nat.beq g 66,qt:=fun g=>Nat.beq g 224,pz:=[(150,[.a [0,8,3,3,5,4,5,4,0]]),(181,[.z 1,.n])],vt:=fun g=>Nat.beq g 117 || Nat.beq g 119 || Nat.beq g 178 || Nat.beq g 179 || Nat.beq g 183,mt:=mt }
theorem TP : T.P = Tryz.prog:=_root_.id rfl
theorem TZ : T.pz = [(150,[.a [0,8,3,3,5,4,5,4,0]]),(181,[.z 1,.n])]:=_root_.id rfl
theorem QzD (n : Nat) (args : List AV) : CP T n 290 args = none:=by
 cases n with
 | zero=>rfl
 | succ n=>rw [QJ9 T n 290 args (by kernel_rfl)]; first | rfl | (show xt 290 args = none; unfold xt; split <;> first | rfl | (rw [if_neg (by decide)]))
theorem QSQ : decide ((0 : Int) ≤ 33) = true:=_root_.id rfl
theorem QSK : decide ((0 : Int) ≤ 47) = true:=_root_.id rfl
def eY:=aI evT <| aI QNa <| aI @QSL <| aI @Qmv <| @Qbo
def eZ:=aI evB <| aI evT <| aI tys <| aI QNa <| aI TP <| aI TZ <| aI (@QMs T) <| aI (@QMI T) <| aI (@QJC T) <| aI @QzD <| aI QSQ <| aI QSK <| aI @Qbo <| @QOk T
theorem Qiy (n : Nat) (x : Int) : CP T (n + 1) 269 [.nil,.i .i64 x] = (Zv x).map fun r=>.own 1 (r.map Q2):=by rw [QJ9 T n 269 _ (by kernel_rfl)]; rfl
theorem QB5 (n : Nat) {R} {xs : List Trial} (i : Int) {V} {ys : List Trial} [H1 : EncL VB R xs] [H2 : EncL VB V ys] : CM T (n + 1) 119 [some (.lst 4 R),some (.lst 4 V)] [.sl 0,.i .i64 i,.sl 1] = Vg (Qdy xs i ys 32) (some (.own 4 ((Q6 xs i ys).map VB))) ():=by
 rcases H1,H2 with ⟨⟨rfl⟩,⟨rfl⟩⟩
 rw [QzO T n 119 _ _ (by kernel_rfl)]
 show (if 4 = 4 ∧ 4 = 4 ∧ Ql (xs.map VB) = true ∧ Ql (ys.map VB) = true then Vg (Qdy (xs.map VB) i (ys.map VB) 32) (some (AV.own 4 (Q6 (xs.map VB) i (ys.map VB)))) () else none) = _
 rw [if_pos ⟨rfl,rfl,Qjj xs,Qjj ys⟩,QoF,Qon]
theorem QBB (n : Nat) {R} {xs : List Find} (i : Int) {V} {ys : List Find} [H1 : EncL Vf R xs] [H2 : EncL Vf V ys] : CM T (n + 1) 178 [some (.lst 8 R),some (.lst 8 V)] [.sl 0,.i .i64 i,.sl 1] = Vg (Qdy xs i ys 64) (some (.own 8 ((Q6 xs i ys).map Vf))) ():=by
 rcases H1,H2 with ⟨⟨rfl⟩,⟨rfl⟩⟩
 rw [QzO T n 178 _ _ (by kernel_rfl)]
 show (if 8 = 8 ∧ 8 = 8 ∧ Ql (xs.map Vf) = true ∧ Ql (ys.map Vf) = true then Vg (Qdy (xs.map Vf) i (ys.map Vf) 64) (some (AV.own 8 (Q6 (xs.map Vf) i (ys.map Vf)))) () else none) = _
 rw [if_pos ⟨rfl,rfl,Qlb xs,Qlb ys⟩,QoF,Qon]
theorem QzE (n : Nat) {R} {xs : List Secret} (i : Int) {V} {ys : List Secret} [H1 : EncL Q7 R xs] [H2 : EncL Q7 V ys] : CM T (n + 1) 179 [some (.lst 3 R),some (.lst 3 V)] [.sl 0,.i .i64 i,.sl 1] = Vg (Qdy xs i ys 40) (some (.own 3 ((Q6 xs i ys).map Q7))) ():=by
 rcases H1,H2 with ⟨⟨rfl⟩,⟨rfl⟩⟩
 rw [QzO T n 179 _ _ (by kernel_rfl)]
 show (if 3 = 3 ∧ 3 = 3 ∧ Ql (xs.map Q7) = true ∧ Ql (ys.map Q7) = true then Vg (Qdy (xs.map Q7) i (ys.map Q7) 40) (some (AV.own 3 (Q6 (xs.map Q7) i (ys.map Q7)))) () else none) = _
 rw [if_pos ⟨rfl,rfl,Qg0 xs,Qg0 ys⟩,QoF,Qon]
theorem QzQ (n : Nat) {R} {xs : List Claim} (i : Int) {V} {ys : List Claim} [H1 : EncL Qs R xs] [H2 : EncL Qs V ys] : CM T (n + 1) 183 [some (.lst 5 R),some (.lst 5 V)] [.sl 0,.i .i64 i,.sl 1] = Vg (Qdy xs i ys 40) (some (.own 5 ((Q6 xs i ys).map Qs))) ():=by
 rcases H1,H2 with ⟨⟨rfl⟩,⟨rfl⟩⟩
 rw [QzO T n 183 _ _ (by kernel_rfl)]
 show (if 5 = 5 ∧ 5 = 5 ∧ Ql (xs.map Qs) = true ∧ Ql (ys.map Qs) = true then Vg (Qdy (xs.map Qs) i (ys.map Qs) 40) (some (AV.own 5 (Q6 (xs.map Qs) i (ys.map Qs)))) () else none) = _
 rw [if_pos ⟨rfl,rfl,Qip xs,Qip ys⟩,QoF,Qon]
theorem QQk : cI = Q2:=_root_.id rfl
theorem QGV (xs : List Int) : QcS (xs.map Q2) = some xs:=Qsi xs
theorem QNw : T.st 66 = true:=by kernel_rfl
theorem QFB : T.st 224 = false:=by kernel_rfl
theorem QGY : T.qt 224 = true:=by kernel_rfl
theorem QOA : T.st 30 = false:=by kernel_rfl
theorem QKe : T.qt 30 = false:=by kernel_rfl
theorem QJE : T.wt 30 = true:=by kernel_rfl
theorem QHb : T.vt 30 = false:=by kernel_rfl
theorem QJF : T.st 31 = false:=by kernel_rfl
theorem QJY : T.qt 31 = false:=by kernel_rfl
theorem QJP : T.wt 31 = true:=by kernel_rfl
theorem QH2 : T.vt 31 = false:=by kernel_rfl
theorem QLe : T.st 32 = false:=by kernel_rfl
theorem QJW : T.qt 32 = false:=by kernel_rfl
theorem QHu : T.wt 32 = true:=by kernel_rfl
theorem QJj : T.vt 32 = false:=by kernel_rfl
theorem QG9 : T.st 77 = false:=by kernel_rfl
theorem QK3 : T.qt 77 = false:=by kernel_rfl
theorem QN7 : T.wt 77 = true:=by kernel_rfl
theorem QIa : T.vt 77 = false:=by kernel_rfl
theorem QOe : T.st 91 = false:=by kernel_rfl
theorem QIe : T.qt 91 = false:=by kernel_rfl
theorem QHp : T.wt 91 = true:=by kernel_rfl
theorem QJh : T.vt 91 = false:=by kernel_rfl
theorem QL5 : T.st 92 = false:=by kernel_rfl
theorem QNU : T.qt 92 = false:=by kernel_rfl
theorem QMQ : T.wt 92 = true:=by kernel_rfl
theorem QJ1 : T.vt 92 = false:=by kernel_rfl
theorem QNV : T.st 93 = false:=by kernel_rfl
theorem QI3 : T.qt 93 = false:=by kernel_rfl
theorem QHO : T.wt 93 = true:=by kernel_rfl
theorem QKW : T.vt 93 = false:=by kernel_rfl
theorem QEz : T.st 117 = false:=by kernel_rfl
theorem QGI : T.qt 117 = false:=by kernel_rfl
theorem QEd : T.wt 117 = false:=by kernel_rfl
theorem QFT : T.vt 117 = true:=by kernel_rfl
theorem QFA : T.st 119 = false:=by kernel_rfl
theorem QFd : T.qt 119 = false:=by kernel_rfl
theorem QEH : T.wt 119 = false:=by kernel_rfl
theorem QGl : T.vt 119 = true:=by kernel_rfl
theorem QFH : T.st 149 = false:=by kernel_rfl
theorem QGn : T.qt 149 = false:=by kernel_rfl
theorem QD3 : T.wt 149 = true:=by kernel_rfl
theorem QFt : T.vt 149 = false:=by kernel_rfl
theorem QDC : T.st 153 = false:=by kernel_rfl
theorem QDr : T.qt 153 = false:=by kernel_rfl
theorem QFq : T.wt 153 = true:=by kernel_rfl
theorem QDo : T.vt 153 = false:=by kernel_rfl
theorem QGg : T.st 168 = false:=by kernel_rfl
theorem QFh : T.qt 168 = false:=by kernel_rfl
theorem QEW : T.wt 168 = true:=by kernel_rfl
theorem QEy : T.vt 168 = false:=by kernel_rfl
theorem QER : T.st 169 = false:=by kernel_rfl
theorem QGy : T.qt 169 = false:=by kernel_rfl
theorem QEf : T.wt 169 = true:=by kernel_rfl
theorem QDY : T.vt 169 = false:=by kernel_rfl
theorem QF2 : T.st 178 = false:=by kernel_rfl
theorem QGN : T.qt 178 = false:=by kernel_rfl
theorem QEu : T.wt 178 = false:=by kernel_rfl
theorem QFr : T.vt 178 = true:=by kernel_rfl
theorem QE0 : T.st 179 = false:=by kernel_rfl
theorem QG5 : T.qt 179 = false:=by kernel_rfl
theorem QE4 : T.wt 179 = false:=by kernel_rfl
theorem QDw : T.vt 179 = true:=by kernel_rfl
theorem QGz : T.st 183 = false:=by kernel_rfl
theorem QEi : T.qt 183 = false:=by kernel_rfl
theorem QDQ : T.wt 183 = false:=by kernel_rfl
theorem QGu : T.vt 183 = true:=by kernel_rfl
theorem QDq : T.st 225 = false:=by kernel_rfl
theorem QFm : T.qt 225 = false:=by kernel_rfl
theorem QGD : T.wt 225 = true:=by kernel_rfl
theorem QG6 : T.vt 225 = false:=by kernel_rfl
theorem QDt : T.st 242 = false:=by kernel_rfl
theorem QEe : T.qt 242 = false:=by kernel_rfl
theorem QDI : T.wt 242 = true:=by kernel_rfl
theorem QGm : T.vt 242 = false:=by kernel_rfl
theorem QGZ : T.st 276 = false:=by kernel_rfl
theorem QEC : T.qt 276 = false:=by kernel_rfl
theorem QEO : T.wt 276 = true:=by kernel_rfl
theorem QGo : T.vt 276 = false:=by kernel_rfl
theorem QDu : T.st 289 = false:=by kernel_rfl
theorem QFo : T.qt 289 = false:=by kernel_rfl
theorem QDE : T.wt 289 = true:=by kernel_rfl
theorem QGM : T.vt 289 = false:=by kernel_rfl
def srt:=aI @QQk <| aI @QGV <| aI @QND <| aI @QMF <| aI @QNT <| aI @QLO <| aI @QNw <| aI @QFB <| aI @QGY <| aI @QOA <| aI @QKe <| aI @QJE <| aI @QHb <| aI @QJF <| aI @QJY <| aI @QJP <| aI @QH2 <| aI @QLe <| aI @QJW <| aI @QHu <| aI @QJj <| aI @QG9 <| aI @QK3 <| aI @QN7 <| aI @QIa <| aI @QOe <| aI @QIe <| aI @QHp <| aI @QJh <| aI @QL5 <| aI @QNU <| aI @QMQ <| aI @QJ1 <| aI @QNV <| aI @QI3 <| aI @QHO <| aI @QKW <| aI @QEz <| aI @QGI <| aI @QEd <| aI @QFT <| aI @QFA <| aI @QFd <| aI @QEH <| aI @QGl <| aI @QFH <| aI @QGn <| aI @QD3 <| aI @QFt <| aI @QDC <| aI @QDr <| aI @QFq <| aI @QDo <| aI @QGg <| aI @QFh <| aI @QEW <| aI @QEy <| aI @QER <| aI @QGy <| aI @QEf <| aI @QDY <| aI @QF2 <| aI @QGN <| aI @QEu <| aI @QFr <| aI @QE0 <| aI @QG5 <| aI @QE4 <| aI @QDw <| aI @QGz <| aI @QEi <| aI @QDQ <| aI @QGu <| aI @QDq <| aI @QFm <| aI @QGD <| aI @QG6 <| aI @QDt <| aI @QEe <| aI @QDI <| aI @QGm <| aI @QGZ <| aI @QEC <| aI @QEO <| aI @QGo <| aI @QDu <| aI @QFo <| aI @QDE @QGM
theorem Aa3 : T.at 3 = some An3:=by kernel_rfl
theorem Aa5 : T.at 5 = some An5:=by kernel_rfl
theorem Aa6 : T.at 6 = some An6:=by kernel_rfl
theorem Aa7 : T.at 7 = some An7:=by kernel_rfl
theorem Aa8 : T.at 8 = some An8:=by kernel_rfl
theorem Aa9 : T.at 9 = some An9:=by kernel_rfl
theorem QQc : T.at 10 = some QAu:=by kernel_rfl
theorem QLu : T.at 11 = some Qv8:=by kernel_rfl
theorem QNx : T.at 12 = some Qw3:=by kernel_rfl
theorem QHZ : T.at 13 = some Qxs:=by kernel_rfl
theorem QSo : T.at 14 = some QBd:=by kernel_rfl
theorem QSV : T.at 15 = some QBY:=by kernel_rfl
theorem QRz : T.at 16 = some QAe:=by kernel_rfl
theorem QPw : T.at 17 = some QzV:=by kernel_rfl
theorem QPU : T.at 18 = some QA7:=by kernel_rfl
theorem QSI : T.at 19 = some QAn:=by kernel_rfl
theorem QLD : T.at 30 = some Qxa:=by kernel_rfl
theorem QQT : T.at 31 = some Qz3:=by kernel_rfl
theorem QHf : T.at 32 = some Qxz:=by kernel_rfl
theorem QPu : T.at 33 = some Qz5:=by kernel_rfl
theorem QLZ : T.at 34 = some QwP:=by kernel_rfl
theorem QM1 : T.at 35 = some Qx6:=by kernel_rfl
theorem QJU : T.at 36 = some Qww:=by kernel_rfl
theorem QFy : T.at 37 = some Qva:=by kernel_rfl
theorem QJO : T.at 38 = some Qwe:=by kernel_rfl
theorem QNz : T.at 39 = some Qyx:=by kernel_rfl
theorem QBU : T.at 40 = some Qsd:=by kernel_rfl
theorem QI1 : T.at 41 = some QxP:=by kernel_rfl
theorem Qxe : T.at 42 = some Qp3:=by kernel_rfl
theorem QR8 : T.at 43 = some QzH:=by kernel_rfl
theorem QJN : T.at 44 = some Qzf:=by kernel_rfl
theorem QMd : T.at 45 = some Qx5:=by kernel_rfl
theorem QDM : T.at 46 = some Qvz:=by kernel_rfl
theorem QGS : T.at 47 = some QuP:=by kernel_rfl
theorem QNv : T.at 48 = some Qy5:=by kernel_rfl
theorem QKY : T.at 49 = some Qx7:=by kernel_rfl
theorem Qz0 : T.at 50 = some QrN:=by kernel_rfl
theorem QMj : T.at 51 = some Qw2:=by kernel_rfl
theorem QRQ : T.at 52 = some Qzp:=by kernel_rfl
theorem QQf : T.at 53 = some QBa:=by kernel_rfl
theorem QTb : T.at 54 = some QAd:=by kernel_rfl
theorem QQK : T.at 55 = some QBA:=by kernel_rfl
theorem QRn : T.at 56 = some QAb:=by kernel_rfl
theorem QPy : T.at 57 = some QBH:=by kernel_rfl
theorem QR2 : T.at 58 = some Qz1:=by kernel_rfl
theorem QTM : T.at 59 = some QBZ:=by kernel_rfl
theorem QM8 : T.at 60 = some QxW:=by kernel_rfl
theorem QMR : T.at 61 = some QwO:=by kernel_rfl
theorem QKJ : T.at 62 = some Qyh:=by kernel_rfl
theorem QIq : T.at 63 = some Qv3:=by kernel_rfl
theorem QQA : T.at 64 = some QB9:=by kernel_rfl
theorem QLm : T.at 65 = some QwX:=by kernel_rfl
theorem QLw : T.at 67 = some Qwv:=by kernel_rfl
theorem QS9 : T.at 68 = some QzI:=by kernel_rfl
theorem QNy : T.at 69 = some Qza:=by kernel_rfl
theorem QRp : T.at 70 = some QBI:=by kernel_rfl
theorem QE2 : T.at 71 = some Quw:=by kernel_rfl
theorem QQH : T.at 72 = some QCg:=by kernel_rfl
theorem QPz : T.at 73 = some QAB:=by kernel_rfl
theorem QQC : T.at 74 = some QB6:=by kernel_rfl
theorem QTK : T.at 75 = some Qzz:=by kernel_rfl
theorem QPX : T.at 76 = some QB2:=by kernel_rfl
theorem QQW : T.at 77 = some QBb:=by kernel_rfl
theorem QQg : T.at 90 = some QCm:=by kernel_rfl
theorem QKV : T.at 91 = some Qym:=by kernel_rfl
theorem QQM : T.at 92 = some Qzq:=by kernel_rfl
theorem QP4 : T.at 93 = some QzP:=by kernel_rfl
theorem QPc : T.at 94 = some Qzt:=by kernel_rfl
theorem QHD : T.at 95 = some QyH:=by kernel_rfl
theorem QSM : T.at 96 = some QAY:=by kernel_rfl
theorem QTk : T.at 97 = some QCj:=by kernel_rfl
theorem QSW : T.at 98 = some Qz8:=by kernel_rfl
theorem QR0 : T.at 99 = some QAR:=by kernel_rfl
theorem QLF : T.at 100 = some Qs8:=by kernel_rfl
theorem QNi : T.at 101 = some Qtg:=by kernel_rfl
theorem QLc : T.at 102 = some QsB:=by kernel_rfl
theorem QCx : T.at 103 = some Qpr:=by kernel_rfl
theorem QNR : T.at 104 = some Quj:=by kernel_rfl
theorem QCP : T.at 105 = some Qqy:=by kernel_rfl
theorem QCZ : T.at 106 = some Qp9:=by kernel_rfl
theorem QCG : T.at 107 = some QpR:=by kernel_rfl
theorem QDm : T.at 108 = some QqB:=by kernel_rfl
theorem QCB : T.at 109 = some Qqq:=by kernel_rfl
theorem QHr : T.at 110 = some QsI:=by kernel_rfl
theorem QH3 : T.at 111 = some QtU:=by kernel_rfl
theorem QH0 : T.at 112 = some QsA:=by kernel_rfl
theorem QCN : T.at 113 = some Qo9:=by kernel_rfl
theorem QDe : T.at 114 = some Qqv:=by kernel_rfl
theorem QI4 : T.at 115 = some Qty:=by kernel_rfl
theorem QJR : T.at 116 = some Qth:=by kernel_rfl
theorem QxT : T.at 117 = some Qnt:=by kernel_rfl
theorem QC5 : T.at 118 = some QpJ:=by kernel_rfl
theorem QJx : T.at 120 = some QtF:=by kernel_rfl
theorem QOB : T.at 121 = some QsX:=by kernel_rfl
theorem QLE : T.at 122 = some Qun:=by kernel_rfl
theorem QKt : T.at 123 = some Qtr:=by kernel_rfl
theorem QNe : T.at 124 = some QsW:=by kernel_rfl
theorem QLM : T.at 125 = some Quk:=by kernel_rfl
theorem QLz : T.at 126 = some QtE:=by kernel_rfl
theorem QL7 : T.at 127 = some QsH:=by kernel_rfl
theorem QKP : T.at 128 = some QtA:=by kernel_rfl
theorem QDk : T.at 129 = some QpF:=by kernel_rfl
theorem QIb : T.at 130 = some Qsx:=by kernel_rfl
theorem QKZ : T.at 131 = some QsC:=by kernel_rfl
theorem QKc : T.at 132 = some Qtv:=by kernel_rfl
theorem QNm : T.at 133 = some QtW:=by kernel_rfl
theorem QNt : T.at 134 = some Qto:=by kernel_rfl
theorem QHC : T.at 135 = some QsD:=by kernel_rfl
theorem QC3 : T.at 136 = some QpD:=by kernel_rfl
theorem QJe : T.at 137 = some Qt3:=by kernel_rfl
theorem QDg : T.at 138 = some Qqg:=by kernel_rfl
theorem QK0 : T.at 139 = some Que:=by kernel_rfl
theorem QHa : T.at 142 = some QsK:=by kernel_rfl
theorem Qkt : T.at 143 = some Qgm:=by kernel_rfl
theorem QOg : T.at 144 = some QsN:=by kernel_rfl
theorem QCt : T.at 145 = some QqP:=by kernel_rfl
theorem QJT : T.at 146 = some QsR:=by kernel_rfl
theorem QC6 : T.at 147 = some Qpx:=by kernel_rfl
theorem QME : T.at 148 = some Qtn:=by kernel_rfl
theorem QNX : T.at 149 = some Qt6:=by kernel_rfl
theorem QHS : T.at 150 = some Qsy:=by kernel_rfl
theorem QIL : T.at 153 = some QsL:=by kernel_rfl
theorem QLj : T.at 157 = some Qte:=by kernel_rfl
theorem QHH : T.at 166 = some QtB:=by kernel_rfl
theorem QCv : T.at 167 = some QpG:=by kernel_rfl
theorem QNg : T.at 168 = some Qs3:=by kernel_rfl
theorem QCn : T.at 169 = some QqO:=by kernel_rfl
theorem QMK : T.at 170 = some QtY:=by kernel_rfl
theorem QCT : T.at 171 = some QpN:=by kernel_rfl
theorem QCD : T.at 172 = some QpY:=by kernel_rfl
theorem QNL : T.at 173 = some Qs1:=by kernel_rfl
theorem QCM : T.at 174 = some QqE:=by kernel_rfl
theorem QDj : T.at 175 = some Qpg:=by kernel_rfl
theorem QIW : T.at 176 = some Quo:=by kernel_rfl
theorem QDc : T.at 177 = some Qp6:=by kernel_rfl
theorem QCX : T.at 180 = some Qps:=by kernel_rfl
theorem QOl : T.at 181 = some QtZ:=by kernel_rfl
theorem QJK : T.at 182 = some QsG:=by kernel_rfl
theorem QIz : T.at 186 = some Qsr:=by kernel_rfl
theorem QDf : T.at 187 = some QqF:=by kernel_rfl
theorem QKz : T.at 188 = some Qsw:=by kernel_rfl
theorem QCY : T.at 189 = some Qpk:=by kernel_rfl
theorem QNW : T.at 190 = some QsF:=by kernel_rfl
theorem QsV : T.at 191 = some Qmo:=by kernel_rfl
theorem QJm : T.at 192 = some QtG:=by kernel_rfl
theorem QC0 : T.at 193 = some Qqj:=by kernel_rfl
theorem QCA : T.at 194 = some QpV:=by kernel_rfl
theorem QJq : T.at 206 = some QsQ:=by kernel_rfl
theorem QCp : T.at 207 = some Qp7:=by kernel_rfl
theorem Qx3 : T.at 223 = some QnK:=by kernel_rfl
theorem QMS : T.at 225 = some Quq:=by kernel_rfl
theorem QMJ : T.at 226 = some Qtd:=by kernel_rfl
theorem QOh : T.at 227 = some Qtk:=by kernel_rfl
theorem QMZ : T.at 228 = some Qt4:=by kernel_rfl
theorem QDi : T.at 233 = some Qpp:=by kernel_rfl
theorem QJw : T.at 237 = some Qup:=by kernel_rfl
theorem QMm : T.at 238 = some Qs7:=by kernel_rfl
theorem QN1 : T.at 239 = some Qtb:=by kernel_rfl
theorem QJl : T.at 240 = some QtN:=by kernel_rfl
theorem QLA : T.at 241 = some Qsv:=by kernel_rfl
theorem QJg : T.at 242 = some Qua:=by kernel_rfl
theorem QKy : T.at 243 = some QtV:=by kernel_rfl
theorem QKw : T.at 244 = some QsO:=by kernel_rfl
theorem QHx : T.at 250 = some QtP:=by kernel_rfl
theorem QHw : T.at 270 = some Qt8:=by kernel_rfl
theorem QCS : T.at 275 = some Qqt:=by kernel_rfl
theorem QtJ : T.at 276 = some QmC:=by kernel_rfl
theorem Qyf : T.at 289 = some Qnr:=by kernel_rfl
end Go.Proofs.YtonidbheohhgdaaGreat
