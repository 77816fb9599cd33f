import Derived.Test.YtoilkmgiofimjaaGreatDoorEvB
import Derived.Test.YtoilkmgiofimjaaGreatDoorFn
import Derived.Test.YtoilkmgiofimjaaGreatDoorProg
import Derived.KernelRfl
namespace Go.Proofs.YtoilkmgiofimjaaGreatDoor
open Go Go.Proofs Go.Proofs.YtoilkmgiofimjaaGreatDoor.Am Tryz
set_option maxHeartbeats 4000000
set_option linter.unusedVariables false
set_option linter.unusedSimpArgs false
set_option linter.defProp false
set_option maxRecDepth 100000
def QA(x:Int):List AV:=[.i .i64 x]
theorem aX(x:Int):QA x=[.i .i64 x]:=Qj
instance(x:Int):EncR QA [.i .i64 x] x:=⟨rfl⟩
theorem td(xs:List Int):QH (xs.map QA)=xs.map QA:=CY (λx=>by simp only[aX,VV,Xd]) xs
theorem rp(xs:List Int):QF (xs.map QA)=true:=An (λx=>by simp only[aX,Xr,AV.clean,Bool.and_self]) xs
theorem Qes{R:List (List AV)}{xs:List Int}(i:Int)[h:EncL QA R xs]:inb R i=inb xs i:=by rw[h.eq,YU]
theorem Qc4{R:List (List AV)}{xs:List Int}(i:Int)[h:EncL QA R xs](hi:inb xs i=true):Va R i.toNat=QA (gt xs i):=by rw[h.eq,YR xs i hi]
def fj(x:Int):List AV:=[.i .u8 x]
theorem iX(x:Int):fj x=[.i .u8 x]:=Qj
instance(x:Int):EncR fj [.i .u8 x] x:=⟨rfl⟩
theorem QgC(xs:List Int):QH (xs.map fj)=xs.map fj:=CY (λx=>by simp only[iX,VV,Xd]) xs
theorem Qg7(xs:List Int):QF (xs.map fj)=true:=An (λx=>by simp only[iX,Xr,AV.clean,Bool.and_self]) xs
theorem QfN{R:List (List AV)}{xs:List Int}(i:Int)[h:EncL fj R xs]:inb R i=inb xs i:=by rw[h.eq,YU]
theorem QhS{R:List (List AV)}{xs:List Int}(i:Int)[h:EncL fj R xs](hi:inb xs i=true):Va R i.toNat=fj (gt xs i):=by rw[h.eq,YR xs i hi]
def c_b(x:Bool):List AV:=[.b x]
theorem tT(x:Bool):c_b x=[.b x]:=Qj
instance(x:Bool):EncR c_b [.b x] x:=⟨rfl⟩
theorem QsX(xs:List Bool):QH (xs.map c_b)=xs.map c_b:=CY (λx=>by simp only[tT,VV,Xd]) xs
theorem Qqg(xs:List Bool):QF (xs.map c_b)=true:=An (λx=>by simp only[tT,Xr,AV.clean,Bool.and_self]) xs
theorem QrC{R:List (List AV)}{xs:List Bool}(i:Int)[h:EncL c_b R xs]:inb R i=inb xs i:=by rw[h.eq,YU]
theorem Qtk{R:List (List AV)}{xs:List Bool}(i:Int)[h:EncL c_b R xs](hi:inb xs i=true):Va R i.toNat=c_b (gt xs i):=by rw[h.eq,YR xs i hi]
def c_s(x:List UInt8):List AV:=[.s x]
theorem ge(x:List UInt8):c_s x=[.s x]:=Qj
instance(x:List UInt8):EncR c_s [.s x] x:=⟨rfl⟩
theorem Qtp(xs:List (List UInt8)):QH (xs.map c_s)=xs.map c_s:=CY (λx=>by simp only[ge,VV,Xd]) xs
theorem Qrk(xs:List (List UInt8)):QF (xs.map c_s)=true:=An (λx=>by simp only[ge,Xr,AV.clean,Bool.and_self]) xs
theorem Qqo{R:List (List AV)}{xs:List (List UInt8)}(i:Int)[h:EncL c_s R xs]:inb R i=inb xs i:=by rw[h.eq,YU]
theorem Qpn{R:List (List AV)}{xs:List (List UInt8)}(i:Int)[h:EncL c_s R xs](hi:inb xs i=true):Va R i.toNat=c_s (gt xs i):=by rw[h.eq,YR xs i hi]
def ER(x:Thing):List AV:=[.i .i64 x.Id,.i .i64 x.Kind,.i .i64 x.Colour,.i .i64 x.Size,.i .i64 x.Worth]
theorem T5(x:Thing):ER x=[.i .i64 x.Id,.i .i64 x.Kind,.i .i64 x.Colour,.i .i64 x.Size,.i .i64 x.Worth]:=Qj
instance(yxId yxKind yxColour yxSize yxWorth)  : EncR ER [.i .i64 yxId,.i .i64 yxKind,.i .i64 yxColour,.i .i64 yxSize,.i .i64 yxWorth] (⟨yxId,yxKind,yxColour,yxSize,yxWorth⟩:Thing):=⟨by rfl⟩
theorem sD(xs:List Thing):QH (xs.map ER)=xs.map ER:=CY (λx=>by simp only[T5,VV,Xd]) xs
theorem rn(xs:List Thing):QF (xs.map ER)=true:=An (λx=>by simp only[T5,Xr,AV.clean,Bool.and_self]) xs
theorem sF(x:Thing):(⟨x.Id,x.Kind,x.Colour,x.Size,x.Worth⟩:Thing)=x:=Qj
def Q4(x:Find):List AV:=[.i .i64 x.Thing.Id,.i .i64 x.Thing.Kind,.i .i64 x.Thing.Colour,.i .i64 x.Thing.Size,.i .i64 x.Thing.Worth,.i .i64 x.Place,.i .i64 x.At,.i .i64 x.Finder]
theorem bE(x:Find):Q4 x=[.i .i64 x.Thing.Id,.i .i64 x.Thing.Kind,.i .i64 x.Thing.Colour,.i .i64 x.Thing.Size,.i .i64 x.Thing.Worth,.i .i64 x.Place,.i .i64 x.At,.i .i64 x.Finder]:=Qj
instance(yxThingxId yxThingxKind yxThingxColour yxThingxSize yxThingxWorth yxPlace yxAt yxFinder)  : EncR Q4 [.i .i64 yxThingxId,.i .i64 yxThingxKind,.i .i64 yxThingxColour,.i .i64 yxThingxSize,.i .i64 yxThingxWorth,.i .i64 yxPlace,.i .i64 yxAt,.i .i64 yxFinder] (⟨⟨yxThingxId,yxThingxKind,yxThingxColour,yxThingxSize,yxThingxWorth⟩,yxPlace,yxAt,yxFinder⟩:Find):=⟨by rfl⟩
theorem lR(xs:List Find):QH (xs.map Q4)=xs.map Q4:=CY (λx=>by simp only[bE,VV,Xd]) xs
theorem Tw(xs:List Find):QF (xs.map Q4)=true:=An (λx=>by simp only[bE,Xr,AV.clean,Bool.and_self]) xs
theorem w6(x:Find):(⟨x.Thing,x.Place,x.At,x.Finder⟩:Find)=x:=Qj
def X5(x:Mark):List AV:=[.i .i64 x.Question,.i .i64 x.Answer]
theorem bo(x:Mark):X5 x=[.i .i64 x.Question,.i .i64 x.Answer]:=Qj
instance(yxQuestion yxAnswer)  : EncR X5 [.i .i64 yxQuestion,.i .i64 yxAnswer] (⟨yxQuestion,yxAnswer⟩:Mark):=⟨by rfl⟩
theorem cg(xs:List Mark):QH (xs.map X5)=xs.map X5:=CY (λx=>by simp only[bo,VV,Xd]) xs
theorem bi(xs:List Mark):QF (xs.map X5)=true:=An (λx=>by simp only[bo,Xr,AV.clean,Bool.and_self]) xs
theorem wO(x:Mark):(⟨x.Question,x.Answer⟩:Mark)=x:=Qj
def VR(x:Secret):List AV:=[.i .i64 x.Thing,.imm 2 (x.Marks.map X5),.i .i64 x.Salt]
theorem ar(x:Secret):VR x=[.i .i64 x.Thing,.imm 2 (x.Marks.map X5),.i .i64 x.Salt]:=Qj
instance(yxThing yxSalt){R1 yxMarks}[H1:EncL X5 R1 yxMarks]:EncR VR [.i .i64 yxThing,.imm 2 R1,.i .i64 yxSalt] (⟨yxThing,yxMarks,yxSalt⟩:Secret):=⟨by obtain⟨rfl⟩:=H1;rfl⟩
def Vk(x:Secret):List AV:=[.i .i64 x.Thing,.own 2 (x.Marks.map X5),.i .i64 x.Salt]
theorem N5(x:Secret):Vk x=[.i .i64 x.Thing,.own 2 (x.Marks.map X5),.i .i64 x.Salt]:=Qj
instance(yxThing yxSalt){R1 yxMarks}[H1:EncL X5 R1 yxMarks]:EncR Vk [.i .i64 yxThing,.own 2 R1,.i .i64 yxSalt] (⟨yxThing,yxMarks,yxSalt⟩:Secret):=⟨by obtain⟨rfl⟩:=H1;rfl⟩
theorem YK(xs:List Secret):QH (xs.map Vk)=xs.map VR:=CY (λx=>by simp only[N5,ar,VV,Xd,cg]) xs
theorem Mm(xs:List Secret):QF (xs.map Vk)=true:=An (λx=>by simp only[N5,Xr,AV.clean,Bool.and_self,bi]) xs
theorem nD(x:Secret):(⟨x.Thing,x.Marks,x.Salt⟩:Secret)=x:=Qj
def Qz(x:Claim):List AV:=[.i .i64 x.Id,.i .i64 x.Who,.i .i64 x.Thing,.i .i64 x.At,.i .i64 x.State]
theorem Wu(x:Claim):Qz x=[.i .i64 x.Id,.i .i64 x.Who,.i .i64 x.Thing,.i .i64 x.At,.i .i64 x.State]:=Qj
instance(yxId yxWho yxThing yxAt yxState)  : EncR Qz [.i .i64 yxId,.i .i64 yxWho,.i .i64 yxThing,.i .i64 yxAt,.i .i64 yxState] (⟨yxId,yxWho,yxThing,yxAt,yxState⟩:Claim):=⟨by rfl⟩
theorem ee(xs:List Claim):QH (xs.map Qz)=xs.map Qz:=CY (λx=>by simp only[Wu,VV,Xd]) xs
theorem Ox(xs:List Claim):QF (xs.map Qz)=true:=An (λx=>by simp only[Wu,Xr,AV.clean,Bool.and_self]) xs
theorem pf(x:Claim):(⟨x.Id,x.Who,x.Thing,x.At,x.State⟩:Claim)=x:=Qj
def VC(x:Trial):List AV:=[.i .i64 x.Claim,.i .i64 x.Asked,.i .i64 x.Right,.i .i64 x.Wrong]
theorem WR(x:Trial):VC x=[.i .i64 x.Claim,.i .i64 x.Asked,.i .i64 x.Right,.i .i64 x.Wrong]:=Qj
instance(yxClaim yxAsked yxRight yxWrong)  : EncR VC [.i .i64 yxClaim,.i .i64 yxAsked,.i .i64 yxRight,.i .i64 yxWrong] (⟨yxClaim,yxAsked,yxRight,yxWrong⟩:Trial):=⟨by rfl⟩
theorem eW(xs:List Trial):QH (xs.map VC)=xs.map VC:=CY (λx=>by simp only[WR,VV,Xd]) xs
theorem Pn(xs:List Trial):QF (xs.map VC)=true:=An (λx=>by simp only[WR,Xr,AV.clean,Bool.and_self]) xs
theorem sj(x:Trial):(⟨x.Claim,x.Asked,x.Right,x.Wrong⟩:Trial)=x:=Qj
def VD(x:Slot):List AV:=[.i .i64 x.Id,.i .i64 x.Size,.i .i64 x.Thing]
theorem aM(x:Slot):VD x=[.i .i64 x.Id,.i .i64 x.Size,.i .i64 x.Thing]:=Qj
instance(yxId yxSize yxThing)  : EncR VD [.i .i64 yxId,.i .i64 yxSize,.i .i64 yxThing] (⟨yxId,yxSize,yxThing⟩:Slot):=⟨by rfl⟩
theorem ma(xs:List Slot):QH (xs.map VD)=xs.map VD:=CY (λx=>by simp only[aM,VV,Xd]) xs
theorem mk(xs:List Slot):QF (xs.map VD)=true:=An (λx=>by simp only[aM,Xr,AV.clean,Bool.and_self]) xs
theorem yT(x:Slot):(⟨x.Id,x.Size,x.Thing⟩:Slot)=x:=Qj
def Vr(x:Hand):List AV:=[.i .i64 x.Thing,.i .i64 x.Holder,.i .i64 x.Who,.i .i64 x.At,.i .i64 x.Seal]
theorem bq(x:Hand):Vr x=[.i .i64 x.Thing,.i .i64 x.Holder,.i .i64 x.Who,.i .i64 x.At,.i .i64 x.Seal]:=Qj
instance(yxThing yxHolder yxWho yxAt yxSeal)  : EncR Vr [.i .i64 yxThing,.i .i64 yxHolder,.i .i64 yxWho,.i .i64 yxAt,.i .i64 yxSeal] (⟨yxThing,yxHolder,yxWho,yxAt,yxSeal⟩:Hand):=⟨by rfl⟩
theorem ki(xs:List Hand):QH (xs.map Vr)=xs.map Vr:=CY (λx=>by simp only[bq,VV,Xd]) xs
theorem mq(xs:List Hand):QF (xs.map Vr)=true:=An (λx=>by simp only[bq,Xr,AV.clean,Bool.and_self]) xs
theorem wJ(x:Hand):(⟨x.Thing,x.Holder,x.Who,x.At,x.Seal⟩:Hand)=x:=Qj
def VL(x:Entry):List AV:=[.i .i64 x.From,.i .i64 x.To,.i .i64 x.Cents,.i .i64 x.At]
theorem WI(x:Entry):VL x=[.i .i64 x.From,.i .i64 x.To,.i .i64 x.Cents,.i .i64 x.At]:=Qj
instance(yxFrom yxTo yxCents yxAt)  : EncR VL [.i .i64 yxFrom,.i .i64 yxTo,.i .i64 yxCents,.i .i64 yxAt] (⟨yxFrom,yxTo,yxCents,yxAt⟩:Entry):=⟨by rfl⟩
theorem eT(xs:List Entry):QH (xs.map VL)=xs.map VL:=CY (λx=>by simp only[WI,VV,Xd]) xs
theorem de(xs:List Entry):QF (xs.map VL)=true:=An (λx=>by simp only[WI,Xr,AV.clean,Bool.and_self]) xs
theorem tL(x:Entry):(⟨x.From,x.To,x.Cents,x.At⟩:Entry)=x:=Qj
def QJ(x:House):List AV:=[.i .i64 x.No,.imm 8 (x.Finds.map Q4),.imm 3 (x.Secrets.map VR),.imm 3 (x.Slots.map VD),.imm 5 (x.Claims.map Qz),.imm 4 (x.Trials.map VC),.imm 5 (x.Chain.map Vr),.imm 4 (x.Book.map VL),.i .i64 x.Now]
theorem cR(x:House):QJ x=[.i .i64 x.No,.imm 8 (x.Finds.map Q4),.imm 3 (x.Secrets.map VR),.imm 3 (x.Slots.map VD),.imm 5 (x.Claims.map Qz),.imm 4 (x.Trials.map VC),.imm 5 (x.Chain.map Vr),.imm 4 (x.Book.map VL),.i .i64 x.Now]:=Qj
instance(yxNo yxNow){R1 yxFinds R2 yxSecrets R3 yxSlots R4 yxClaims R5 yxTrials R6 yxChain R7 yxBook}[H1:EncL Q4 R1 yxFinds][H2:EncL VR R2 yxSecrets][H3:EncL VD R3 yxSlots][H4:EncL Qz R4 yxClaims][H5:EncL VC R5 yxTrials][H6:EncL Vr R6 yxChain][H7:EncL VL R7 yxBook]:EncR QJ [.i .i64 yxNo,.imm 8 R1,.imm 3 R2,.imm 3 R3,.imm 5 R4,.imm 4 R5,.imm 5 R6,.imm 4 R7,.i .i64 yxNow] (⟨yxNo,yxFinds,yxSecrets,yxSlots,yxClaims,yxTrials,yxChain,yxBook,yxNow⟩:House):=⟨by obtain⟨rfl⟩:=H1;obtain⟨rfl⟩:=H2;obtain⟨rfl⟩:=H3;obtain⟨rfl⟩:=H4;obtain⟨rfl⟩:=H5;obtain⟨rfl⟩:=H6;obtain⟨rfl⟩:=H7;rfl⟩
def VW(x:House):List AV:=[.i .i64 x.No,.own 8 (x.Finds.map Q4),.own 3 (x.Secrets.map Vk),.own 3 (x.Slots.map VD),.own 5 (x.Claims.map Qz),.own 4 (x.Trials.map VC),.own 5 (x.Chain.map Vr),.own 4 (x.Book.map VL),.i .i64 x.Now]
theorem Su(x:House):VW x=[.i .i64 x.No,.own 8 (x.Finds.map Q4),.own 3 (x.Secrets.map Vk),.own 3 (x.Slots.map VD),.own 5 (x.Claims.map Qz),.own 4 (x.Trials.map VC),.own 5 (x.Chain.map Vr),.own 4 (x.Book.map VL),.i .i64 x.Now]:=Qj
instance(yxNo yxNow){R1 yxFinds R2 yxSecrets R3 yxSlots R4 yxClaims R5 yxTrials R6 yxChain R7 yxBook}[H1:EncL Q4 R1 yxFinds][H2:EncL Vk R2 yxSecrets][H3:EncL VD R3 yxSlots][H4:EncL Qz R4 yxClaims][H5:EncL VC R5 yxTrials][H6:EncL Vr R6 yxChain][H7:EncL VL R7 yxBook]:EncR VW [.i .i64 yxNo,.own 8 R1,.own 3 R2,.own 3 R3,.own 5 R4,.own 4 R5,.own 5 R6,.own 4 R7,.i .i64 yxNow] (⟨yxNo,yxFinds,yxSecrets,yxSlots,yxClaims,yxTrials,yxChain,yxBook,yxNow⟩:House):=⟨by obtain⟨rfl⟩:=H1;obtain⟨rfl⟩:=H2;obtain⟨rfl⟩:=H3;obtain⟨rfl⟩:=H4;obtain⟨rfl⟩:=H5;obtain⟨rfl⟩:=H6;obtain⟨rfl⟩:=H7;rfl⟩
theorem s6(xs:List House):QH (xs.map VW)=xs.map QJ:=CY (λx=>by simp only[Su,cR,VV,Xd,ee,eT,lR,ki,YK,ma,eW]) xs
theorem q9(xs:List House):QF (xs.map VW)=true:=An (λx=>by simp only[Su,Xr,AV.clean,Bool.and_self,Ox,de,Tw,mq,Mm,mk,Pn]) xs
theorem rJ(x:House):(⟨x.No,x.Finds,x.Secrets,x.Slots,x.Claims,x.Trials,x.Chain,x.Book,x.Now⟩:House)=x:=Qj
def Jp(x:Bid):List AV:=[.i .i64 x.Who,.i .i64 x.Cents,.i .i64 x.Seal]
theorem gF(x:Bid):Jp x=[.i .i64 x.Who,.i .i64 x.Cents,.i .i64 x.Seal]:=Qj
instance(yxWho yxCents yxSeal)  : EncR Jp [.i .i64 yxWho,.i .i64 yxCents,.i .i64 yxSeal] (⟨yxWho,yxCents,yxSeal⟩:Bid):=⟨by rfl⟩
theorem rS(xs:List Bid):QH (xs.map Jp)=xs.map Jp:=CY (λx=>by simp only[gF,VV,Xd]) xs
theorem uv(xs:List Bid):QF (xs.map Jp)=true:=An (λx=>by simp only[gF,Xr,AV.clean,Bool.and_self]) xs
theorem Qb1(x:Bid):(⟨x.Who,x.Cents,x.Seal⟩:Bid)=x:=Qj
def aP(x:Event):List AV:=[.i .i64 x.Kind,.i .i64 x.Find.Thing.Id,.i .i64 x.Find.Thing.Kind,.i .i64 x.Find.Thing.Colour,.i .i64 x.Find.Thing.Size,.i .i64 x.Find.Thing.Worth,.i .i64 x.Find.Place,.i .i64 x.Find.At,.i .i64 x.Find.Finder,.imm 2 (x.Marks.map X5),.i .i64 x.Id,.i .i64 x.Who,.i .i64 x.N,.imm 3 (x.Bids.map Jp)]
theorem di(x:Event):aP x=[.i .i64 x.Kind,.i .i64 x.Find.Thing.Id,.i .i64 x.Find.Thing.Kind,.i .i64 x.Find.Thing.Colour,.i .i64 x.Find.Thing.Size,.i .i64 x.Find.Thing.Worth,.i .i64 x.Find.Place,.i .i64 x.Find.At,.i .i64 x.Find.Finder,.imm 2 (x.Marks.map X5),.i .i64 x.Id,.i .i64 x.Who,.i .i64 x.N,.imm 3 (x.Bids.map Jp)]:=Qj
instance(yxKind yxFindxThingxId yxFindxThingxKind yxFindxThingxColour yxFindxThingxSize yxFindxThingxWorth yxFindxPlace yxFindxAt yxFindxFinder yxId yxWho yxN){R1 yxMarks R2 yxBids}[H1:EncL X5 R1 yxMarks][H2:EncL Jp R2 yxBids]:EncR aP [.i .i64 yxKind,.i .i64 yxFindxThingxId,.i .i64 yxFindxThingxKind,.i .i64 yxFindxThingxColour,.i .i64 yxFindxThingxSize,.i .i64 yxFindxThingxWorth,.i .i64 yxFindxPlace,.i .i64 yxFindxAt,.i .i64 yxFindxFinder,.imm 2 R1,.i .i64 yxId,.i .i64 yxWho,.i .i64 yxN,.imm 3 R2] (⟨yxKind,⟨⟨yxFindxThingxId,yxFindxThingxKind,yxFindxThingxColour,yxFindxThingxSize,yxFindxThingxWorth⟩,yxFindxPlace,yxFindxAt,yxFindxFinder⟩,yxMarks,yxId,yxWho,yxN,yxBids⟩:Event):=⟨by obtain⟨rfl⟩:=H1;obtain⟨rfl⟩:=H2;rfl⟩
def Mr(x:Event):List AV:=[.i .i64 x.Kind,.i .i64 x.Find.Thing.Id,.i .i64 x.Find.Thing.Kind,.i .i64 x.Find.Thing.Colour,.i .i64 x.Find.Thing.Size,.i .i64 x.Find.Thing.Worth,.i .i64 x.Find.Place,.i .i64 x.Find.At,.i .i64 x.Find.Finder,.own 2 (x.Marks.map X5),.i .i64 x.Id,.i .i64 x.Who,.i .i64 x.N,.own 3 (x.Bids.map Jp)]
theorem Rh(x:Event):Mr x=[.i .i64 x.Kind,.i .i64 x.Find.Thing.Id,.i .i64 x.Find.Thing.Kind,.i .i64 x.Find.Thing.Colour,.i .i64 x.Find.Thing.Size,.i .i64 x.Find.Thing.Worth,.i .i64 x.Find.Place,.i .i64 x.Find.At,.i .i64 x.Find.Finder,.own 2 (x.Marks.map X5),.i .i64 x.Id,.i .i64 x.Who,.i .i64 x.N,.own 3 (x.Bids.map Jp)]:=Qj
instance(yxKind yxFindxThingxId yxFindxThingxKind yxFindxThingxColour yxFindxThingxSize yxFindxThingxWorth yxFindxPlace yxFindxAt yxFindxFinder yxId yxWho yxN){R1 yxMarks R2 yxBids}[H1:EncL X5 R1 yxMarks][H2:EncL Jp R2 yxBids]:EncR Mr [.i .i64 yxKind,.i .i64 yxFindxThingxId,.i .i64 yxFindxThingxKind,.i .i64 yxFindxThingxColour,.i .i64 yxFindxThingxSize,.i .i64 yxFindxThingxWorth,.i .i64 yxFindxPlace,.i .i64 yxFindxAt,.i .i64 yxFindxFinder,.own 2 R1,.i .i64 yxId,.i .i64 yxWho,.i .i64 yxN,.own 3 R2] (⟨yxKind,⟨⟨yxFindxThingxId,yxFindxThingxKind,yxFindxThingxColour,yxFindxThingxSize,yxFindxThingxWorth⟩,yxFindxPlace,yxFindxAt,yxFindxFinder⟩,yxMarks,yxId,yxWho,yxN,yxBids⟩:Event):=⟨by obtain⟨rfl⟩:=H1;obtain⟨rfl⟩:=H2;rfl⟩
theorem rY(xs:List Event):QH (xs.map Mr)=xs.map aP:=CY (λx=>by simp only[Rh,di,VV,Xd,rS,cg]) xs
theorem tm(xs:List Event):QF (xs.map Mr)=true:=An (λx=>by simp only[Rh,Xr,AV.clean,Bool.and_self,uv,bi]) xs
theorem qn(x:Event):(⟨x.Kind,x.Find,x.Marks,x.Id,x.Who,x.N,x.Bids⟩:Event)=x:=Qj
def Uf(x:Span):List AV:=[.i .i64 x.From,.i .i64 x.Until]
theorem aF(x:Span):Uf x=[.i .i64 x.From,.i .i64 x.Until]:=Qj
instance(yxFrom yxUntil)  : EncR Uf [.i .i64 yxFrom,.i .i64 yxUntil] (⟨yxFrom,yxUntil⟩:Span):=⟨by rfl⟩
theorem yx(xs:List Span):QH (xs.map Uf)=xs.map Uf:=CY (λx=>by simp only[aF,VV,Xd]) xs
theorem wX(xs:List Span):QF (xs.map Uf)=true:=An (λx=>by simp only[aF,Xr,AV.clean,Bool.and_self]) xs
theorem uH(x:Span):(⟨x.From,x.Until⟩:Span)=x:=Qj
def CU(x:Report):List AV:=[.i .i64 x.Id,.i .i64 x.Kind,.imm 1 (x.Colours.map QA),.i .i64 x.SizeLow,.i .i64 x.SizeHigh,.imm 1 (x.Places.map QA),.i .i64 x.Span.From,.i .i64 x.Span.Until]
theorem aa(x:Report):CU x=[.i .i64 x.Id,.i .i64 x.Kind,.imm 1 (x.Colours.map QA),.i .i64 x.SizeLow,.i .i64 x.SizeHigh,.imm 1 (x.Places.map QA),.i .i64 x.Span.From,.i .i64 x.Span.Until]:=Qj
instance(yxId yxKind yxSizeLow yxSizeHigh yxSpanxFrom yxSpanxUntil){R1 yxColours R2 yxPlaces}[H1:EncL QA R1 yxColours][H2:EncL QA R2 yxPlaces]:EncR CU [.i .i64 yxId,.i .i64 yxKind,.imm 1 R1,.i .i64 yxSizeLow,.i .i64 yxSizeHigh,.imm 1 R2,.i .i64 yxSpanxFrom,.i .i64 yxSpanxUntil] (⟨yxId,yxKind,yxColours,yxSizeLow,yxSizeHigh,yxPlaces,⟨yxSpanxFrom,yxSpanxUntil⟩⟩:Report):=⟨by obtain⟨rfl⟩:=H1;obtain⟨rfl⟩:=H2;rfl⟩
def IN(x:Report):List AV:=[.i .i64 x.Id,.i .i64 x.Kind,.own 1 (x.Colours.map QA),.i .i64 x.SizeLow,.i .i64 x.SizeHigh,.own 1 (x.Places.map QA),.i .i64 x.Span.From,.i .i64 x.Span.Until]
theorem N1(x:Report):IN x=[.i .i64 x.Id,.i .i64 x.Kind,.own 1 (x.Colours.map QA),.i .i64 x.SizeLow,.i .i64 x.SizeHigh,.own 1 (x.Places.map QA),.i .i64 x.Span.From,.i .i64 x.Span.Until]:=Qj
instance(yxId yxKind yxSizeLow yxSizeHigh yxSpanxFrom yxSpanxUntil){R1 yxColours R2 yxPlaces}[H1:EncL QA R1 yxColours][H2:EncL QA R2 yxPlaces]:EncR IN [.i .i64 yxId,.i .i64 yxKind,.own 1 R1,.i .i64 yxSizeLow,.i .i64 yxSizeHigh,.own 1 R2,.i .i64 yxSpanxFrom,.i .i64 yxSpanxUntil] (⟨yxId,yxKind,yxColours,yxSizeLow,yxSizeHigh,yxPlaces,⟨yxSpanxFrom,yxSpanxUntil⟩⟩:Report):=⟨by obtain⟨rfl⟩:=H1;obtain⟨rfl⟩:=H2;rfl⟩
theorem o0(xs:List Report):QH (xs.map IN)=xs.map CU:=CY (λx=>by simp only[N1,aa,VV,Xd,td]) xs
theorem nP(xs:List Report):QF (xs.map IN)=true:=An (λx=>by simp only[N1,Xr,AV.clean,Bool.and_self,rp]) xs
theorem ng(x:Report):(⟨x.Id,x.Kind,x.Colours,x.SizeLow,x.SizeHigh,x.Places,x.Span⟩:Report)=x:=Qj
def Nv(x:Share):List AV:=[.i .i64 x.Who,.i .i64 x.Cents]
theorem Um(x:Share):Nv x=[.i .i64 x.Who,.i .i64 x.Cents]:=Qj
instance(yxWho yxCents)  : EncR Nv [.i .i64 yxWho,.i .i64 yxCents] (⟨yxWho,yxCents⟩:Share):=⟨by rfl⟩
theorem qq(xs:List Share):QH (xs.map Nv)=xs.map Nv:=CY (λx=>by simp only[Um,VV,Xd]) xs
theorem rz(xs:List Share):QF (xs.map Nv)=true:=An (λx=>by simp only[Um,Xr,AV.clean,Bool.and_self]) xs
theorem pm(x:Share):(⟨x.Who,x.Cents⟩:Share)=x:=Qj
def H0(x:List Int):List AV:=[.imm 1 (x.map QA)]
theorem tY(x:List Int):H0 x=[.imm 1 (x.map QA)]:=Qj
instance{R}{x:List Int}[H:EncL QA R x]:EncR H0 [.imm 1 R] x:=⟨by obtain⟨rfl⟩:=H;rfl⟩
theorem mW{R:List (List AV)}{xs:List (List Int)}(i:Int)[h:EncL H0 R xs]:inb R i=inb xs i:=by rw[h.eq,YU]
theorem ox{R:List (List AV)}{xs:List (List Int)}(i:Int)[h:EncL H0 R xs](hi:inb xs i=true):Va R i.toNat=H0 (gt xs i):=by rw[h.eq,YR xs i hi]
def Qlf:=aI @aX<|aI @td<|aI @rp<|aI @Qes<|aI @Qc4<|aI @iX<|aI @QgC<|aI @Qg7<|aI @QfN<|aI @QhS<|aI @tT<|aI @QsX<|aI @Qqg<|aI @QrC<|aI @Qtk<|aI @ge<|aI @Qtp<|aI @Qrk<|aI @Qqo<|aI @Qpn<|aI @T5<|aI @sD<|aI @rn<|aI @sF<|aI @bE<|aI @lR<|aI @Tw<|aI @w6<|aI @bo<|aI @cg<|aI @bi<|aI @wO<|aI @ar<|aI @YK<|aI @Mm<|aI @nD<|aI @N5<|aI @Wu<|aI @ee<|aI @Ox<|aI @pf<|aI @WR<|aI @eW<|aI @Pn<|aI @sj<|aI @aM<|aI @ma<|aI @mk<|aI @yT<|aI @bq<|aI @ki<|aI @mq<|aI @wJ<|aI @WI<|aI @eT<|aI @de<|aI @tL<|aI @cR<|aI @s6<|aI @q9<|aI @rJ<|aI @Su<|aI @gF<|aI @rS<|aI @uv<|aI @Qb1<|aI @di<|aI @rY<|aI @tm<|aI @qn<|aI @Rh<|aI @aF<|aI @yx<|aI @wX<|aI @uH<|aI @aa<|aI @o0<|aI @nP<|aI @ng<|aI @N1<|aI @Um<|aI @qq<|aI @rz<|aI @pm<|aI @tY<|aI @mW @ox
theorem tys:bsl Tryz.prog 3=false∧bsl Tryz.prog 5=false∧bsl Tryz.prog 77=true∧HT Tryz.prog 28=true∧HT Tryz.prog 30=true∧HT Tryz.prog 31=true∧HT Tryz.prog 32=true∧HT Tryz.prog 33=true∧HT Tryz.prog 34=true∧HT Tryz.prog 47=true∧HT Tryz.prog 48=true∧GH Tryz.prog 168=[0,0]∧GH Tryz.prog 22=[0]∧GH Tryz.prog 225=[0]∧GH Tryz.prog 28=[0,0,0,0,0,0,0,0]∧GH Tryz.prog 29=[0,2,0]∧GH Tryz.prog 290=[1]∧GH Tryz.prog 30=[0,0,0]∧GH Tryz.prog 31=[0,0,0,0,0]∧GH Tryz.prog 32=[0,0,0,0]∧GH Tryz.prog 33=[0,0,0,0,0]∧GH Tryz.prog 34=[0,0,0,0]∧GH Tryz.prog 47=[0,0]∧GH Tryz.prog 48=[0,0,0]∧GH Tryz.prog 52=[0]∧GH Tryz.prog 77=[0]∧tb Tryz.prog 107=some 32∧tb Tryz.prog 114=some 40∧tb Tryz.prog 127=some 40∧tb Tryz.prog 130=some 32∧tb Tryz.prog 141=some 40∧tb Tryz.prog 3=some 8∧tb Tryz.prog 46=some 64∧tb Tryz.prog 80=some 16∧tb Tryz.prog 9=some 16∧tb Tryz.prog 94=some 24∧tb Tryz.prog 96=some 24∧tbd Tryz.prog 107=.st [.i .i64 0,.i .i64 0,.i .i64 0,.i .i64 0] [(0,1),(1,1),(2,1),(3,1)]∧tbd Tryz.prog 114=.st [.i .i64 0,.i .i64 0,.i .i64 0,.i .i64 0,.i .i64 0] [(0,1),(1,1),(2,1),(3,1),(4,1)]∧tbd Tryz.prog 127=.st [.i .i64 0,.i .i64 0,.i .i64 0,.i .i64 0,.i .i64 0] [(0,1),(1,1),(2,1),(3,1),(4,1)]∧tbd Tryz.prog 130=.st [.i .i64 0,.i .i64 0,.i .i64 0,.i .i64 0] [(0,1),(1,1),(2,1),(3,1)]∧tbd Tryz.prog 141=.st [.i .i64 0,.nil,.i .i64 0] [(0,1),(1,1),(2,1)]∧tbd Tryz.prog 171=.st [.i .i64 0,.i .i64 0] [(0,1),(1,1)]∧tbd Tryz.prog 194=.arr [.s [],.s [],.s [],.s [],.s [],.s []] 1∧tbd Tryz.prog 218=.arr [.s [],.s [],.s [],.s [],.s [],.s [],.s [],.s []] 1∧tbd Tryz.prog 235=.arr [.s [],.s [],.s [],.s [],.s []] 1∧tbd Tryz.prog 36=.st [.i .i64 0,.nil,.nil,.nil,.nil,.nil,.nil,.nil,.i .i64 0] [(0,1),(1,1),(2,1),(3,1),(4,1),(5,1),(6,1),(7,1),(8,1)]∧tbd Tryz.prog 44=.st [.i .i64 0,.i .i64 0,.i .i64 0,.i .i64 0,.i .i64 0] [(0,1),(1,1),(2,1),(3,1),(4,1)]∧tbd Tryz.prog 46=.st [.i .i64 0,.i .i64 0,.i .i64 0,.i .i64 0,.i .i64 0,.i .i64 0,.i .i64 0,.i .i64 0] [(0,5),(5,1),(6,1),(7,1)]∧tbd Tryz.prog 50=.st [.i .i64 0,.i .i64 0,.i .i64 0,.i .i64 0,.i .i64 0,.i .i64 0,.i .i64 0,.i .i64 0,.i .i64 0,.nil,.i .i64 0,.i .i64 0,.i .i64 0,.nil] [(0,1),(1,8),(9,1),(10,1),(11,1),(12,1),(13,1)]∧tbd Tryz.prog 54=.st [.i .i64 0,.i .i64 0] [(0,1),(1,1)]∧tbd Tryz.prog 56=.st [.i .i64 0,.i .i64 0,.nil,.i .i64 0,.i .i64 0,.nil,.i .i64 0,.i .i64 0] [(0,1),(1,1),(2,1),(3,1),(4,1),(5,1),(6,2)]∧tbd Tryz.prog 80=.st [.i .i64 0,.i .i64 0] [(0,1),(1,1)]∧tbd Tryz.prog 94=.st [.i .i64 0,.i .i64 0,.i .i64 0] [(0,1),(1,1),(2,1)]∧tbd Tryz.prog 96=.st [.i .i64 0,.i .i64 0,.i .i64 0] [(0,1),(1,1),(2,1)]∧SY Tryz.prog 4=some [.t]∧tfo Tryz.prog 107 0=some (0,.one)∧tfo Tryz.prog 107 1=some (1,.one)∧tfo Tryz.prog 107 2=some (2,.one)∧tfo Tryz.prog 107 3=some (3,.one)∧tfo Tryz.prog 114 0=some (0,.one)∧tfo Tryz.prog 114 1=some (1,.one)∧tfo Tryz.prog 114 2=some (2,.one)∧tfo Tryz.prog 114 3=some (3,.one)∧tfo Tryz.prog 114 4=some (4,.one)∧tfo Tryz.prog 127 0=some (0,.one)∧tfo Tryz.prog 127 1=some (1,.one)∧tfo Tryz.prog 127 2=some (2,.one)∧tfo Tryz.prog 127 3=some (3,.one)∧tfo Tryz.prog 127 4=some (4,.one)∧tfo Tryz.prog 130 0=some (0,.one)∧tfo Tryz.prog 130 1=some (1,.one)∧tfo Tryz.prog 130 2=some (2,.one)∧tfo Tryz.prog 130 3=some (3,.one)∧tfo Tryz.prog 141 0=some (0,.one)∧tfo Tryz.prog 141 1=some (1,.one)∧tfo Tryz.prog 141 2=some (2,.one)∧tfo Tryz.prog 171 0=some (0,.one)∧tfo Tryz.prog 171 1=some (1,.one)∧tfo Tryz.prog 36 0=some (0,.one)∧tfo Tryz.prog 36 1=some (1,.one)∧tfo Tryz.prog 36 2=some (2,.one)∧tfo Tryz.prog 36 3=some (3,.one)∧tfo Tryz.prog 36 4=some (4,.one)∧tfo Tryz.prog 36 5=some (5,.one)∧tfo Tryz.prog 36 6=some (6,.one)∧tfo Tryz.prog 36 7=some (7,.one)∧tfo Tryz.prog 36 8=some (8,.one)∧tfo Tryz.prog 44 0=some (0,.one)∧tfo Tryz.prog 44 1=some (1,.one)∧tfo Tryz.prog 44 2=some (2,.one)∧tfo Tryz.prog 44 3=some (3,.one)∧tfo Tryz.prog 44 4=some (4,.one)∧tfo Tryz.prog 46 0=some (0,.agg 5)∧tfo Tryz.prog 46 1=some (5,.one)∧tfo Tryz.prog 46 2=some (6,.one)∧tfo Tryz.prog 46 3=some (7,.one)∧tfo Tryz.prog 50 0=some (0,.one)∧tfo Tryz.prog 50 1=some (1,.agg 8)∧tfo Tryz.prog 50 2=some (9,.one)∧tfo Tryz.prog 50 3=some (10,.one)∧tfo Tryz.prog 50 4=some (11,.one)∧tfo Tryz.prog 50 5=some (12,.one)∧tfo Tryz.prog 50 6=some (13,.one)∧tfo Tryz.prog 54 0=some (0,.one)∧tfo Tryz.prog 54 1=some (1,.one)∧tfo Tryz.prog 56 0=some (0,.one)∧tfo Tryz.prog 56 1=some (1,.one)∧tfo Tryz.prog 56 2=some (2,.one)∧tfo Tryz.prog 56 3=some (3,.one)∧tfo Tryz.prog 56 4=some (4,.one)∧tfo Tryz.prog 56 5=some (5,.one)∧tfo Tryz.prog 56 6=some (6,.agg 2)∧tfo Tryz.prog 80 0=some (0,.one)∧tfo Tryz.prog 80 1=some (1,.one)∧tfo Tryz.prog 94 0=some (0,.one)∧tfo Tryz.prog 94 1=some (1,.one)∧tfo Tryz.prog 94 2=some (2,.one)∧tfo Tryz.prog 96 0=some (0,.one)∧tfo Tryz.prog 96 1=some (1,.one)∧ti Tryz.prog 168=.sl 171 2∧ti Tryz.prog 194=.arr 6 9 1∧ti Tryz.prog 218=.arr 8 9 1∧ti Tryz.prog 22=.sl 9 1∧ti Tryz.prog 225=.sl 4 1∧ti Tryz.prog 235=.arr 5 9 1∧ti Tryz.prog 28=.sl 46 8∧ti Tryz.prog 29=.sl 141 3∧ti Tryz.prog 290=.sl 52 1∧ti Tryz.prog 3=.int .i64∧ti Tryz.prog 30=.sl 94 3∧ti Tryz.prog 31=.sl 114 5∧ti Tryz.prog 32=.sl 107 4∧ti Tryz.prog 33=.sl 127 5∧ti Tryz.prog 34=.sl 130 4∧ti Tryz.prog 47=.sl 80 2∧ti Tryz.prog 48=.sl 96 3∧ti Tryz.prog 5=.int .u8∧ti Tryz.prog 52=.sl 3 1∧ti Tryz.prog 9=.str∧tk Tryz.prog 107=.agg 4∧tk Tryz.prog 114=.agg 5∧tk Tryz.prog 127=.agg 5∧tk Tryz.prog 130=.agg 4∧tk Tryz.prog 141=.agg 3∧tk Tryz.prog 194=.agg 6∧tk Tryz.prog 218=.agg 8∧tk Tryz.prog 235=.agg 5∧tk Tryz.prog 28=.one∧tk Tryz.prog 29=.one∧tk Tryz.prog 3=.one∧tk Tryz.prog 30=.one∧tk Tryz.prog 31=.one∧tk Tryz.prog 32=.one∧tk Tryz.prog 33=.one∧tk Tryz.prog 34=.one∧tk Tryz.prog 36=.agg 9∧tk Tryz.prog 4=.one∧tk Tryz.prog 44=.agg 5∧tk Tryz.prog 46=.agg 8∧tk Tryz.prog 47=.one∧tk Tryz.prog 48=.one∧tk Tryz.prog 50=.agg 14∧tk Tryz.prog 52=.one∧tk Tryz.prog 54=.agg 2∧tk Tryz.prog 56=.agg 8∧tk Tryz.prog 80=.agg 2∧tk Tryz.prog 9=.one∧tk Tryz.prog 94=.agg 3∧tk Tryz.prog 96=.agg 3∧DN Tryz.prog 22=true∧DN Tryz.prog 28=true∧DN Tryz.prog 29=true∧DN Tryz.prog 30=true∧DN Tryz.prog 31=true∧DN Tryz.prog 32=true∧DN Tryz.prog 33=true∧DN Tryz.prog 34=true∧DN Tryz.prog 47=true∧DN Tryz.prog 48=true∧DN Tryz.prog 52=true∧tok Tryz.prog 3=true∧tok Tryz.prog 5=true∧tse Tryz.prog 168=some (171,2,[.i .i64 0,.i .i64 0])∧tse Tryz.prog 22=some (9,1,[.s []])∧tse Tryz.prog 225=some (4,1,[.b false])∧tse Tryz.prog 28=some (46,8,[.i .i64 0,.i .i64 0,.i .i64 0,.i .i64 0,.i .i64 0,.i .i64 0,.i .i64 0,.i .i64 0])∧tse Tryz.prog 29=some (141,3,[.i .i64 0,.nil,.i .i64 0])∧tse Tryz.prog 290=some (52,1,[.nil])∧tse Tryz.prog 30=some (94,3,[.i .i64 0,.i .i64 0,.i .i64 0])∧tse Tryz.prog 31=some (114,5,[.i .i64 0,.i .i64 0,.i .i64 0,.i .i64 0,.i .i64 0])∧tse Tryz.prog 32=some (107,4,[.i .i64 0,.i .i64 0,.i .i64 0,.i .i64 0])∧tse Tryz.prog 33=some (127,5,[.i .i64 0,.i .i64 0,.i .i64 0,.i .i64 0,.i .i64 0])∧tse Tryz.prog 34=some (130,4,[.i .i64 0,.i .i64 0,.i .i64 0,.i .i64 0])∧tse Tryz.prog 47=some (80,2,[.i .i64 0,.i .i64 0])∧tse Tryz.prog 48=some (96,3,[.i .i64 0,.i .i64 0,.i .i64 0])∧tse Tryz.prog 52=some (3,1,[.i .i64 0])∧tse Tryz.prog 77=some (5,1,[.i .u8 0])∧tzc Tryz.prog 107=some [.i .i64 0,.i .i64 0,.i .i64 0,.i .i64 0]∧tzc Tryz.prog 114=some [.i .i64 0,.i .i64 0,.i .i64 0,.i .i64 0,.i .i64 0]∧tzc Tryz.prog 127=some [.i .i64 0,.i .i64 0,.i .i64 0,.i .i64 0,.i .i64 0]∧tzc Tryz.prog 130=some [.i .i64 0,.i .i64 0,.i .i64 0,.i .i64 0]∧tzc Tryz.prog 141=some [.i .i64 0,.nil,.i .i64 0]∧tzc Tryz.prog 194=some [.s [],.s [],.s [],.s [],.s [],.s []]∧tzc Tryz.prog 218=some [.s [],.s [],.s [],.s [],.s [],.s [],.s [],.s []]∧tzc Tryz.prog 235=some [.s [],.s [],.s [],.s [],.s []]∧tzc Tryz.prog 36=some [.i .i64 0,.nil,.nil,.nil,.nil,.nil,.nil,.nil,.i .i64 0]∧tzc Tryz.prog 44=some [.i .i64 0,.i .i64 0,.i .i64 0,.i .i64 0,.i .i64 0]∧tzc Tryz.prog 46=some [.i .i64 0,.i .i64 0,.i .i64 0,.i .i64 0,.i .i64 0,.i .i64 0,.i .i64 0,.i .i64 0]∧tzc Tryz.prog 50=some [.i .i64 0,.i .i64 0,.i .i64 0,.i .i64 0,.i .i64 0,.i .i64 0,.i .i64 0,.i .i64 0,.i .i64 0,.nil,.i .i64 0,.i .i64 0,.i .i64 0,.nil]∧tzc Tryz.prog 56=some [.i .i64 0,.i .i64 0,.nil,.i .i64 0,.i .i64 0,.nil,.i .i64 0,.i .i64 0]∧tzc Tryz.prog 80=some [.i .i64 0,.i .i64 0]∧tzc Tryz.prog 94=some [.i .i64 0,.i .i64 0,.i .i64 0]∧tzc Tryz.prog 96=some [.i .i64 0,.i .i64 0,.i .i64 0]:=by and_intros<;>kernel_rfl
def Oe:List (List AV)→Option (List (List UInt8))
 |[]=>some []
 |[.s x]::r=>(Oe r).map (x::·)
 |_=>none
theorem Wx:∀l:List (List UInt8),Oe (l.map c_s)=some l
 |[]=>rfl
 |x::l=>by rw[List.map_cons,ge,Oe,Wx l];rfl
def xt(g:Nat)(args:List AV):Option AV:=match args with
 |[.nil,.i .i64 x]=>if g=347 then(Bp x).map λr=>.own 1 (r.map QA)else none
 |[.imm 1 R,.s s]=>if g=31 then(Oe R).bind λl=>(strings_Join l s).map .s else none
 |[.s s,.s t]=>if g=10 then(strings_Split s t).map λr=>.own 1 (r.map c_s)else if g=161 then(strings_Cut s t).map λr=>.tup [.s r.1,.s r.2.1,.b r.2.2]else none
 |[.i .i64 x]=>if g=168 then(strconv_Itoa x).map .s else none
 |_=>none
def mt(g:Nat)(K:KS)(args:List AV):Option AV:=mtI [(179,(4,32)),(253,(8,64)),(254,(3,40)),(259,(5,40))] g K args
def An3:Ann:={ ac:=[(8,0)],jn:=[(5,(32,24,32)),(16,(57,49,57))] }
def An4:Ann:={ ot:=[(17,.one 0 (.one 1 (.one 2 (.one 3 (.one 4 (.alt (.one 5 (.one 6 (.one 7 (.one 8 (.one 9 (.one 10 (.one 11 (.done)))))))) (.one 9 (.one 5 (.one 6 (.one 7 (.one 8 (.one 10 (.one 11 (.done))))))))))))))],jn:=[(6,(28,19,28)),(7,(38,29,38))],lp:=[(4,⟨[0,4,5,6],[.s 4 1],[4],[.s 4 1]⟩),(15,⟨[4,7,8,9],[.s 4 1,.s 7 0,.c 1 1 8,.c 1 2 3,.c 1 3 3,.c 1 4 5,.c 1 5 4,.c 1 6 5,.c 1 7 4,.s 8 1],[8],[.s 8 1]⟩)],sh:=[.z 1,.n] }
def An5:Ann:={ fz:=[(2,[4])],lp:=[(8,⟨[5,6,29,30,31],[.s 5 0,.c 0 1 8,.c 0 2 3,.c 0 3 3,.c 0 4 5,.c 0 5 4,.c 0 6 5,.c 0 7 4,.s 6 1],[6],[.s 6 1]⟩)],sh:=[.z 1,.n] }
def An6:Ann:={ lp:=[(4,⟨[0,1,5],[],[],[]⟩)],rt:=⟨[4],[],[],[]⟩ }
def An7:Ann:={ ak:=[0],lp:=[(2,⟨[0,1,5],[.s 0 1],[0,1],[.s 0 1]⟩)] }
def An8:Ann:={ lp:=[(2,⟨[0,1,5],[],[1],[]⟩)],rt:=⟨[4],[],[],[]⟩ }
def An9:Ann:={ ord:=[(14,[0,2,3,4,1,5,6,7,8]),(28,[0,2,3,4,5,1,6,7,8]),(30,[0,2,3,4,5,6,7,8,1,9,10,11])],ot:=[(19,.one 0 (.one 1 (.one 2 (.alt (.one 3 (.alt (.one 4 (.one 5 (.one 6 (.one 7 (.one 8 (.one 9 (.one 10 (.done)))))))) (.one 8 (.one 4 (.one 5 (.one 6 (.one 7 (.one 9 (.one 10 (.done)))))))))) (.one 8 (.one 3 (.one 4 (.one 5 (.one 6 (.one 7 (.one 9 (.one 10 (.done)))))))))))))],av:=[(20,[22]),(25,[22])],fz:=[(15,[6])],jn:=[(2,(27,20,27)),(5,(40,32,40)),(16,(83,77,83)),(18,(94,86,94))],lp:=[(8,⟨[2,4,6,8,9],[.s 2 0,.s 4 0,.s 6 1],[2,4,8],[.s 2 0,.s 4 0]⟩)],sh:=[.a [0,8,3,3,5,4,5,4,0],.n] }
def uu:Ann:={ ord:=[(14,[0,2,3,4,1,5,6,7,8]),(20,[0,2,3,4,5,6,1,7,8,9])],ot:=[(18,.one 0 (.one 1 (.one 2 (.one 3 (.one 4 (.alt (.one 5 (.one 6 (.one 7 (.one 8 (.one 9 (.one 10 (.one 11 (.one 12 (.one 13 (.done)))))))))) (.one 10 (.one 5 (.one 6 (.one 7 (.one 8 (.one 9 (.one 11 (.one 12 (.one 13 (.done))))))))))))))))],fz:=[(11,[6])],jn:=[(8,(48,31,48))],lp:=[(3,⟨[1,2,4,6,18,19,20],[.s 2 0,.s 4 0,.s 6 1,.s 18 1],[1,2,4,6],[.s 2 0,.s 4 0,.s 6 1]⟩)],sh:=[.a [0,8,3,3,5,4,5,4,0],.n] }
def uB:Ann:={ lp:=[(4,⟨[0,3],[],[3],[]⟩)] }
def uw:Ann:={ jn:=[(6,(22,13,22))],lp:=[(4,⟨[0,3,4,5],[.s 3 1],[3],[.s 3 1]⟩)],sh:=[.z 1] }
def xu:Ann:={ ord:=[(1,[0,1,2,3,4,6,7,9,10,11,13,14,15,17,18,19,21,22,23,25,26,27,29,30,5,8,12,16,20,24,28,31,32])],eb:=[(1,[5,12,16,20,24,28])],sh:=[.a [0,8,3,3,5,4,5,4,0]] }
def vo:Ann:={ ord:=[(3,[0,1,2,4,5,3,6,7,8,9,10,11,12])],ot:=[(6,.one 0 (.one 1 (.one 2 (.one 3 (.one 4 (.one 5 (.one 7 (.one 8 (.one 9 (.one 10 (.one 11 (.one 12 (.one 13 (.one 14 (.one 15 (.one 17 (.one 18 (.one 19 (.one 20 (.one 21 (.one 22 (.one 23 (.one 24 (.one 25 (.alt (.one 6 (.one 16 (.one 26 (.one 27 (.one 28 (.done)))))) (.one 27 (.one 6 (.one 16 (.one 26 (.one 28 (.done)))))))))))))))))))))))))))))))],jn:=[(1,(21,6,21))],sh:=[.a [0,0,0,0,0,0,0,0,0,2,0,0,0,3]] }
def vL:Ann:={ jn:=[(10,(101,74,101))],sh:=[.a [0,0,1,0,0,1,0,0],.n] }
def pN:Ann:={ lp:=[(3,⟨[0,3,4],[.s 3 1],[3],[.s 3 1]⟩)] }
def tC:Ann:={ jn:=[(3,(15,8,15))],lp:=[(3,⟨[1,2,5,6],[.s 2 0,.s 5 1],[5],[.s 5 1]⟩)],sh:=[.z 1] }
def qD:Ann:={ lp:=[(3,⟨[0,4,5],[.s 4 1],[4],[.s 4 1]⟩)],rt:=⟨[2,3],[.s 2 1],[],[]⟩,sh:=[.z 1,.n] }
def yH:Ann:={ jn:=[(2,(20,11,20))],sh:=[.a [0,8,3,3,5,4,5,4,0],.n] }
def xO:Ann:={ sh:=[.z 3] }
def uR:Ann:={ sh:=[.a [0,8,3,3,5,4,5,4,0],.n] }
def vz:Ann:={ jn:=[(1,(5,6,13)),(3,(23,24,31)),(5,(38,39,46)),(7,(50,51,58)),(9,(62,63,70)),(11,(83,84,91))],sh:=[.a [0,0,0,0,0,0,0,0,0,2,0,0,0,3]] }
def ww:Ann:={ sh:=[.a [0,8,3,3,5,4,5,4,0],.n] }
def yX:Ann:={}
def yv:Ann:={ ord:=[(7,[0,1,2,3,4,5,6,7,9,8,10,11,12])],jn:=[(5,(29,24,29))] }
def vv:Ann:={}
def uW:Ann:={ ord:=[(1,[0,1,3,4,6,7,9,10,2,12,5,8,11,13,14,15,16,17,18,19]),(2,[0,1,3,4,6,7,2,9,5,8,10,11,12,13,14])],sh:=[.a [0,8,3,3,5,4,5,4,0]] }
def wi:Ann:={ jn:=[(10,(97,74,97))],sh:=[.a [0,0,1,0,0,1,0,0],.n] }
def pD:Ann:={ lp:=[(3,⟨[3,7,8,9],[.s 3 1],[3],[.s 3 1]⟩)] }
def rD:Ann:={ lp:=[(5,⟨[2,5,13,14,15],[.s 2 0,.s 5 1],[5],[.s 5 1]⟩)],sh:=[.z 1] }
def tG:Ann:={ jn:=[(6,(30,23,30))],lp:=[(3,⟨[0,4,11,12,13],[.s 4 1],[4],[.s 4 1]⟩)],rt:=⟨[2,3],[.s 2 1],[],[]⟩,sh:=[.z 1,.n] }
def xj:Ann:={ sh:=[.a [0,8,3,3,5,4,5,4,0],.n,.n,.n] }
def xf:Ann:={ ord:=[(7,[0,1,2,3,4,5,6,7,9,8,10,11,12])],ot:=[(3,.one 0 (.one 1 (.one 2 (.one 3 (.alt (.one 4 (.one 5 (.one 6 (.one 7 (.one 8 (.one 9 (.one 10 (.done)))))))) (.one 8 (.one 4 (.one 5 (.one 6 (.one 7 (.one 9 (.one 10 (.done)))))))))))))],jn:=[(5,(34,29,34))] }
def qY:Ann:={ ord:=[(5,[0,1,2,3,4,5,6,7,8,9,10,11,13,14,15,16,17,12,18,19,20,21])],eb:=[(5,[18])],lp:=[(3,⟨[0,3,4],[.s 3 3],[3],[.s 3 3]⟩)],sh:=[.z 3] }
def tM:Ann:={ lp:=[(2,⟨[0,3],[],[],[]⟩)],rt:=⟨[2],[],[],[]⟩ }
def pK:Ann:={ jn:=[(6,(25,15,25))],lp:=[(4,⟨[0,1,5,6,7],[.s 5 1],[5],[.s 5 1]⟩)],sh:=[.z 1] }
def qA:Ann:={ jn:=[(10,(37,30,37))],lp:=[(5,⟨[0,4,5],[],[0,4],[]⟩)],rt:=⟨[2,3],[],[],[]⟩ }
def rU:Ann:={ lp:=[(6,⟨[0,4,5,6],[.s 4 1,.s 5 1],[0,4],[.s 4 1]⟩)],rt:=⟨[2,3],[.s 2 1],[],[]⟩,sh:=[.z 1,.n] }
def xW:Ann:={}
def xb:Ann:={ ord:=[(3,[0,1,4,5,9,10,14,15,19,20,24,25,29,30,31,35,36,37,2,3,6,7,8,11,12,13,16,17,18,21,22,23,26,27,28,32,33,34,38,39,40])] }
def qJ:Ann:={ lp:=[(5,⟨[0,3,4],[],[0,3],[]⟩)] }
def tj:Ann:={ lp:=[(3,⟨[0,3,4],[],[0,3],[]⟩)] }
def qr:Ann:={ jn:=[(4,(35,10,35))],lp:=[(2,⟨[0,3],[],[0],[]⟩)],rt:=⟨[2],[],[],[]⟩ }
def xn:Ann:={}
def wm:Ann:={ jn:=[(1,(48,3,48)),(3,(86,49,86)),(5,(2,87,93))] }
def s9:Ann:={ lp:=[(3,⟨[0,3,4],[],[3],[]⟩)] }
def uL:Ann:={ av:=[(10,[135])],sh:=[.a [0,8,3,3,5,4,5,4,0],.n] }
def sJ:Ann:={ ot:=[(7,.one 0 (.one 1 (.one 2 (.one 3 (.one 4 (.one 6 (.one 7 (.one 12 (.alt (.one 5 (.alt (.one 8 (.alt (.one 9 (.one 10 (.one 11 (.one 13 (.one 14 (.one 15 (.one 16 (.done)))))))) (.one 10 (.alt (.one 9 (.one 11 (.one 13 (.one 14 (.one 15 (.one 16 (.done))))))) (.one 11 (.one 13 (.one 9 (.one 14 (.one 15 (.one 16 (.done))))))))))) (.one 10 (.alt (.one 8 (.alt (.one 9 (.one 11 (.one 13 (.one 14 (.one 15 (.one 16 (.done))))))) (.one 11 (.one 13 (.one 9 (.one 14 (.one 15 (.one 16 (.done))))))))) (.one 11 (.one 13 (.one 8 (.one 9 (.one 14 (.one 15 (.one 16 (.done)))))))))))) (.alt (.one 8 (.alt (.one 5 (.alt (.one 9 (.one 10 (.one 11 (.one 13 (.one 14 (.one 15 (.one 16 (.done)))))))) (.one 10 (.alt (.one 9 (.one 11 (.one 13 (.one 14 (.one 15 (.one 16 (.done))))))) (.one 11 (.one 13 (.one 9 (.one 14 (.one 15 (.one 16 (.done))))))))))) (.one 10 (.alt (.one 5 (.alt (.one 9 (.one 11 (.one 13 (.one 14 (.one 15 (.one 16 (.done))))))) (.one 11 (.one 13 (.one 9 (.one 14 (.one 15 (.one 16 (.done))))))))) (.one 11 (.one 13 (.one 5 (.one 9 (.one 14 (.one 15 (.one 16 (.done)))))))))))) (.one 10 (.alt (.one 5 (.alt (.one 8 (.alt (.one 9 (.one 11 (.one 13 (.one 14 (.one 15 (.one 16 (.done))))))) (.one 11 (.one 13 (.one 9 (.one 14 (.one 15 (.one 16 (.done))))))))) (.one 11 (.one 13 (.one 8 (.one 9 (.one 14 (.one 15 (.one 16 (.done)))))))))) (.alt (.one 8 (.alt (.one 5 (.alt (.one 9 (.one 11 (.one 13 (.one 14 (.one 15 (.one 16 (.done))))))) (.one 11 (.one 13 (.one 9 (.one 14 (.one 15 (.one 16 (.done))))))))) (.one 11 (.one 13 (.one 5 (.one 9 (.one 14 (.one 15 (.one 16 (.done)))))))))) (.one 11 (.one 13 (.alt (.one 5 (.one 8 (.one 9 (.one 14 (.one 15 (.one 16 (.done))))))) (.one 8 (.one 5 (.one 9 (.one 14 (.one 15 (.one 16 (.done)))))))))))))))))))))))],eb:=[(7,[47])],av:=[(8,[135])],jn:=[(5,(44,30,44))],lp:=[(5,⟨[1,3,4,8,10,12,13],[.s 4 0,.s 8 0,.s 10 0,.c 2 1 8,.c 2 2 3,.c 2 3 3,.c 2 4 5,.c 2 5 4,.c 2 6 5,.c 2 7 4],[1,3,4,8,10,12,13],[.s 4 0,.s 8 0,.s 10 0,.c 2 1 8,.c 2 2 3,.c 2 3 3,.c 2 4 5,.c 2 5 4,.c 2 6 5,.c 2 7 4]⟩)],sh:=[.a [0,8,3,3,5,4,5,4,0],.n] }
def yU:Ann:={ av:=[(13,[135])],jn:=[(3,(34,19,34))],sh:=[.a [0,8,3,3,5,4,5,4,0],.n] }
def vC:Ann:={ ot:=[(9,.one 0 (.one 1 (.one 2 (.one 3 (.one 4 (.one 5 (.one 6 (.one 7 (.one 8 (.one 9 (.one 10 (.one 11 (.one 12 (.one 13 (.one 14 (.one 15 (.one 16 (.one 17 (.alt (.one 18 (.alt (.one 19 (.one 20 (.one 21 (.one 22 (.one 23 (.one 24 (.one 25 (.done)))))))) (.one 23 (.one 19 (.one 20 (.one 21 (.one 22 (.one 24 (.one 25 (.done)))))))))) (.one 23 (.one 18 (.one 19 (.one 20 (.one 21 (.one 22 (.one 24 (.one 25 (.done))))))))))))))))))))))))))))],av:=[(9,[143]),(10,[135])],jn:=[(3,(33,23,33))],sh:=[.a [0,8,3,3,5,4,5,4,0],.n] }
def vu:Ann:={ ot:=[(9,.one 0 (.one 1 (.one 2 (.one 3 (.one 4 (.one 5 (.one 6 (.one 7 (.one 8 (.alt (.one 9 (.one 10 (.one 11 (.one 12 (.one 13 (.one 14 (.one 15 (.done)))))))) (.one 13 (.one 9 (.one 10 (.one 11 (.one 12 (.one 14 (.one 15 (.done))))))))))))))))))],av:=[(6,[143]),(9,[143]),(10,[135]),(11,[135])],jn:=[(3,(50,27,50))],sh:=[.a [0,8,3,3,5,4,5,4,0],.n] }
def xL:Ann:={ ot:=[(6,.one 0 (.one 1 (.one 2 (.one 3 (.one 4 (.one 5 (.one 6 (.one 7 (.alt (.one 8 (.one 9 (.one 10 (.one 11 (.one 12 (.one 13 (.one 14 (.done)))))))) (.one 12 (.one 8 (.one 9 (.one 10 (.one 11 (.one 13 (.one 14 (.done)))))))))))))))))],av:=[(7,[135]),(11,[135])],jn:=[(2,(21,15,21))],sh:=[.a [0,8,3,3,5,4,5,4,0],.n] }
def xz:Ann:={ av:=[(5,[135])],jn:=[(2,(17,9,17))],sh:=[.a [0,8,3,3,5,4,5,4,0],.n] }
def pP:Ann:={ lp:=[(3,⟨[0,1,5,6],[.s 5 1],[5],[.s 5 1]⟩)],sh:=[.z 1] }
def se:Ann:={ lp:=[(3,⟨[0,3,4],[.s 3 1],[3],[.s 3 1]⟩)] }
def ph:Ann:={ ord:=[(8,[0,1,2,3,4,5,8,9,10,11,12,16,17,18,19,20,23,6,7,13,14,15,21,22,24,25,26,27])],lp:=[(3,⟨[0,3,4],[.s 3 1],[3],[.s 3 1]⟩)] }
def wU:Ann:={}
def yE:Ann:={}
def qE:Ann:={ lp:=[(2,⟨[1,2,4,6],[.s 2 0,.s 4 0],[4],[.s 4 0]⟩)],rt:=⟨[4,5],[.s 4 0],[],[]⟩ }
def tU:Ann:={ lp:=[(2,⟨[0,1,5],[],[],[]⟩)],rt:=⟨[4],[],[],[]⟩ }
def vJ:Ann:={}
def ye:Ann:={ sh:=[.z 2] }
def rc:Ann:={ ord:=[(8,[0,1,2,3,4,5,8,9,10,11,12,16,17,18,19,20,6,7,13,14,15,21,22,23])],lp:=[(4,⟨[5,6,7],[.s 6 5],[5,6],[.s 6 5]⟩)] }
def tf:Ann:={ lp:=[(2,⟨[0,1,5],[],[],[]⟩)],rt:=⟨[4],[],[],[]⟩ }
def wn:Ann:={}
def qB:Ann:={ jn:=[(6,(36,20,36)),(10,(42,43,53))],lp:=[(4,⟨[1,2,3,7],[.s 3 0],[2,3],[.s 3 0]⟩)],rt:=⟨[6],[],[],[]⟩ }
def yD:Ann:={}
def ue:Ann:={ jn:=[(3,(14,7,14))],lp:=[(3,⟨[0,1,5,6],[],[5],[]⟩)] }
def yt:Ann:={ sh:=[.z 8] }
def re:Ann:={ lp:=[(3,⟨[3,7,8,9],[.s 3 3],[3],[.s 3 3]⟩)],sh:=[.z 3] }
def vq:Ann:={ sh:=[.z 3] }
def xk:Ann:={ sh:=[.z 5] }
def vB:Ann:={ sh:=[.z 4] }
def wS:Ann:={ sh:=[.z 5] }
def vU:Ann:={ sh:=[.z 4] }
def ul:Ann:={ jn:=[(1,(23,6,23)),(7,(38,29,38))],lp:=[(5,⟨[0,4,25,26],[],[4],[]⟩)],rt:=⟨[2,3],[],[],[]⟩ }
def rN:Ann:={ lp:=[(5,⟨[4,14,15,16],[.s 4 1,.s 14 1],[4],[.s 4 1]⟩)],rt:=⟨[2,3],[.s 2 1],[],[]⟩,sh:=[.z 1,.n] }
def yo:Ann:={}
def qz:Ann:={ lp:=[(2,⟨[0,3],[],[],[]⟩)],rt:=⟨[2],[],[],[]⟩ }
def xB:Ann:={ ord:=[(3,[0,1,3,4,6,7,9,10,11,12,14,15,17,18,19,20,21,22,2,5,8,13,16,23,24,25,26])] }
def yy:Ann:={}
def uG:Ann:={}
def qw:Ann:={ jn:=[(6,(34,15,34))],lp:=[(4,⟨[0,8,9,10],[],[],[]⟩)],rt:=⟨[2],[],[],[]⟩ }
def yh:Ann:={}
def yf:Ann:={ sh:=[.a [0,8,3,3,5,4,5,4,0],.n] }
def vg:Ann:={ sh:=[.z 3] }
def yV:Ann:={ av:=[(6,[176])],sh:=[.a [0,8,3,3,5,4,5,4,0],.n] }
def wY:Ann:={ ot:=[(5,.one 0 (.one 1 (.one 2 (.one 3 (.one 4 (.one 6 (.one 7 (.alt (.one 5 (.one 8 (.one 9 (.one 10 (.one 11 (.done)))))) (.one 8 (.one 5 (.one 9 (.one 10 (.one 11 (.done))))))))))))))],av:=[(5,[179]),(6,[176])],jn:=[(3,(40,27,40))],sh:=[.a [0,8,3,3,5,4,5,4,0],.n] }
def yp:Ann:={ av:=[(12,[176])],jn:=[(3,(33,18,33))],sh:=[.a [0,8,3,3,5,4,5,4,0],.n] }
def uK:Ann:={ av:=[(12,[176])],jn:=[(3,(30,25,30))],sh:=[.a [0,8,3,3,5,4,5,4,0],.n] }
def lH:Ann:={ av:=[(11,[176])],sh:=[.a [0,8,3,3,5,4,5,4,0],.n] }
def ku:Ann:={ av:=[(11,[176])],jn:=[(3,(42,28,42)),(9,(80,68,80))],sh:=[.a [0,8,3,3,5,4,5,4,0],.n] }
def kF:Ann:={ av:=[(3,[176])],sh:=[.a [0,8,3,3,5,4,5,4,0],.n] }
def kM:Ann:={}
def kf:Ann:={}
def kR:Ann:={}
def kh:Ann:={ sh:=[.z 2] }
def cH:Ann:={ ord:=[(5,[0,1,2,4,5,9,10,3,6,7,8,11,12,13,14,15])],lp:=[(3,⟨[5,11,12,13],[.s 5 1,.s 11 5],[5],[.s 5 1]⟩)] }
def mv:Ann:={}
def mN:Ann:={ jn:=[(2,(10,5,10))] }
def lq:Ann:={ jn:=[(4,(16,17,26)),(6,(26,27,35)),(8,(35,36,44))] }
def dG:Ann:={ lp:=[(3,⟨[1,5,9,10,11],[.s 5 1],[5],[.s 5 1]⟩)],sh:=[.z 1] }
def kQ:Ann:={}
def mh:Ann:={}
def dv:Ann:={ lp:=[(3,⟨[3,8,9,10],[.s 3 1],[3],[.s 3 1]⟩)] }
def cO:Ann:={ ord:=[(8,[0,1,2,5,6,10,11,14,3,4,7,8,9,12,13,15,16,17,18])],lp:=[(3,⟨[3,8,9,10],[.s 3 1],[3],[.s 3 1]⟩)] }
def jz:Ann:={}
def kw:Ann:={}
def kW:Ann:={}
def kN:Ann:={ jn:=[(1,(6,7,15))] }
def eU:Ann:={ lp:=[(3,⟨[0,3,4],[],[0,3],[]⟩)] }
def jV:Ann:={ jn:=[(1,(2,3,49))] }
def kL:Ann:={ jn:=[(1,(2,3,21))] }
def jr:Ann:={ jn:=[(1,(5,6,14)),(5,(21,22,35)),(9,(45,46,58))] }
def e8:Ann:={ jn:=[(4,(61,10,61))],lp:=[(2,⟨[0,3],[],[0],[]⟩)],rt:=⟨[2],[],[],[]⟩ }
def YZ:Ann:={ jn:=[(4,(53,11,53)),(9,(77,59,77))],lp:=[(2,⟨[0,3],[],[0],[]⟩),(7,⟨[0,3,4],[],[0,3],[]⟩)],rt:=⟨[2],[],[],[]⟩ }
def aA:Ann:={ jn:=[(5,(58,16,58)),(10,(84,64,84))],lp:=[(2,⟨[0,3],[],[0],[]⟩),(8,⟨[0,3,4,5],[.s 4 0],[0,3],[]⟩)],rt:=⟨[2],[],[],[]⟩ }
def gb:Ann:={ jn:=[(3,(15,7,15)),(7,(67,25,67)),(10,(96,73,96))],lp:=[(3,⟨[0,3,4],[],[0],[]⟩)],rt:=⟨[2],[],[],[]⟩ }
def fP:Ann:={ jn:=[(5,(58,15,58))],lp:=[(2,⟨[0,3],[],[0],[]⟩)],rt:=⟨[2],[],[],[]⟩ }
def UY:Ann:={ ord:=[(13,[0,1,2,3,4,5,6,7,8,9,10,11,14,15,12,13,16,17,18,19,20,21,22,23,24,25,26,27,28,29])],jn:=[(13,(77,48,77)),(18,(103,85,103))],lp:=[(5,⟨[1,3,4],[.s 1 0,.s 3 1],[1,3],[.s 1 0,.s 3 1]⟩),(10,⟨[1,3,5],[.s 1 0,.s 3 1],[1],[.s 1 0]⟩),(16,⟨[1,7],[.s 1 0],[],[]⟩)],rt:=⟨[2],[],[],[]⟩ }
def dA:Ann:={ ord:=[(8,[0,1,2,3,4,5,6,7,8,9,10,11,12,13,14,15,16,17,18,19,20,21,22,23,24,25,26,27,28,29,30,32,33,34,35,36,38,31,37,39,40,41,42,43,44,45,46,47])],jn:=[(8,(77,30,77))],lp:=[(4,⟨[1,3],[.s 1 0],[],[]⟩)],rt:=⟨[2],[],[],[]⟩ }
def dn:Ann:={ ot:=[(4,.one 1 (.one 2 (.one 3 (.one 8 (.one 9 (.one 10 (.alt (.one 0 (.alt (.one 4 (.one 5 (.one 6 (.one 7 (.one 11 (.one 12 (.done))))))) (.one 5 (.alt (.one 4 (.one 6 (.one 7 (.one 11 (.one 12 (.done)))))) (.one 6 (.one 4 (.one 7 (.one 11 (.one 12 (.done)))))))))) (.one 5 (.alt (.one 0 (.alt (.one 4 (.one 6 (.one 7 (.one 11 (.one 12 (.done)))))) (.one 6 (.one 4 (.one 7 (.one 11 (.one 12 (.done)))))))) (.one 6 (.one 0 (.one 4 (.one 7 (.one 11 (.one 12 (.done))))))))))))))))],jn:=[(2,(23,8,23))],lp:=[(2,⟨[0,3,6],[.s 3 0],[0,3,6],[.s 3 0]⟩)],sh:=[.z 8,.n] }
def gk:Ann:={ ot:=[(4,.one 0 (.one 1 (.one 2 (.one 4 (.one 8 (.one 9 (.one 10 (.alt (.one 3 (.one 5 (.one 6 (.one 7 (.one 11 (.one 12 (.one 13 (.done)))))))) (.one 5 (.one 3 (.one 6 (.one 7 (.one 11 (.one 12 (.one 13 (.done))))))))))))))))],jn:=[(2,(21,8,21))],lp:=[(2,⟨[0,3,6],[.s 3 0],[0,3,6],[.s 3 0]⟩)],sh:=[.z 3,.n] }
def fm:Ann:={ jn:=[(3,(34,16,34))],lp:=[(6,⟨[3,6,7,8],[.s 3 0,.s 6 3],[6],[.s 6 3]⟩)],sh:=[.z 3,.n] }
def kE:Ann:={ ot:=[(5,.one 1 (.alt (.one 0 (.alt (.one 2 (.one 3 (.one 4 (.one 5 (.one 6 (.done)))))) (.one 3 (.alt (.one 2 (.one 4 (.one 5 (.one 6 (.done))))) (.one 4 (.one 2 (.one 5 (.one 6 (.done))))))))) (.one 3 (.alt (.one 0 (.alt (.one 2 (.one 4 (.one 5 (.one 6 (.done))))) (.one 4 (.one 2 (.one 5 (.one 6 (.done))))))) (.one 4 (.one 0 (.one 2 (.one 5 (.one 6 (.done))))))))))],sh:=[.z 5,.n] }
def lm:Ann:={ jn:=[(1,(19,8,19))],sh:=[.a [0,8,3,3,5,4,5,4,0],.n] }
def dL:Ann:={ ot:=[(9,.one 1 (.one 2 (.one 3 (.one 8 (.one 9 (.one 10 (.alt (.one 0 (.alt (.one 4 (.one 5 (.one 6 (.one 7 (.one 11 (.one 12 (.done))))))) (.one 5 (.alt (.one 4 (.one 6 (.one 7 (.one 11 (.one 12 (.done)))))) (.one 6 (.one 4 (.one 7 (.one 11 (.one 12 (.done)))))))))) (.one 5 (.alt (.one 0 (.alt (.one 4 (.one 6 (.one 7 (.one 11 (.one 12 (.done)))))) (.one 6 (.one 4 (.one 7 (.one 11 (.one 12 (.done)))))))) (.one 6 (.one 0 (.one 4 (.one 7 (.one 11 (.one 12 (.done))))))))))))))))],jn:=[(6,(7,19,40)),(10,(67,62,67))],lp:=[(4,⟨[0,3,6,7,8],[.s 3 0],[0,3,6,7],[.s 3 0]⟩)],sh:=[.z 5,.n] }
def cJ:Ann:={ jn:=[(4,(22,12,22))],lp:=[(2,⟨[0,1,5],[],[],[]⟩)],rt:=⟨[4],[],[],[]⟩ }
def mf:Ann:={}
def lT:Ann:={ jn:=[(1,(5,6,19)),(3,(19,20,30))] }
def dF:Ann:={ jn:=[(5,(44,13,44))],lp:=[(3,⟨[0,1,5,6],[],[0,5],[]⟩)] }
def me:Ann:={ sh:=[.a [0,8,3,3,5,4,5,4,0],.n] }
def k6:Ann:={ jn:=[(3,(24,18,24)),(6,(11,31,49)),(8,(60,54,60))],sh:=[.z 5,.n] }
def mS:Ann:={ sh:=[.a [0,8,3,3,5,4,5,4,0],.n] }
def j7:Ann:={ jn:=[(1,(12,5,12))] }
def jG:Ann:={ jn:=[(1,(12,5,12))] }
def kn:Ann:={ sh:=[.z 2] }
def kJ:Ann:={ jn:=[(1,(4,5,13))] }
def cF:Ann:={ jn:=[(6,(42,25,42))],lp:=[(3,⟨[1,3,4],[.s 1 0,.s 3 1],[],[]⟩)],rt:=⟨[2],[],[],[]⟩ }
def dl:Ann:={ jn:=[(6,(46,23,46))],lp:=[(2,⟨[1,3],[.s 1 0],[],[]⟩)],rt:=⟨[2],[],[],[]⟩ }
def dH:Ann:={ jn:=[(6,(35,23,35)),(7,(48,36,48))],lp:=[(2,⟨[1,3],[.s 1 0],[],[]⟩)],rt:=⟨[2],[],[],[]⟩ }
def fY:Ann:={ jn:=[(7,(2,24,32))],lp:=[(4,⟨[1,3,4,5],[.s 1 0,.s 4 1],[1,3],[.s 1 0]⟩)] }
def jL:Ann:={ jn:=[(1,(19,7,19))] }
def cM:Ann:={ lp:=[(2,⟨[0,1,5],[],[],[]⟩)],rt:=⟨[4],[],[],[]⟩ }
def fA:Ann:={ lp:=[(3,⟨[0,1,5,6],[.s 5 5],[5],[.s 5 5]⟩)],sh:=[.z 5] }
def kl:Ann:={}
def lc:Ann:={ sh:=[.z 2] }
def mb:Ann:={}
def l6:Ann:={ jn:=[(1,(2,3,49))] }
def ep:Ann:={ lp:=[(5,⟨[3,10,11,12],[.s 3 1],[3],[.s 3 1]⟩)] }
def kt:Ann:={}
def km:Ann:={ jn:=[(1,(2,3,21))] }
def kP:Ann:={ jn:=[(1,(5,6,14))] }
def lK:Ann:={ ord:=[(1,[0,1,2,3,4,5,6,7,8,9,10,11,12,13,14,15,16,17,18,19,20,21,22,23,24,25,26,27,28,29,30,31,32,33,34,35,36,37,38,39,40,41,42,44,45,43,46,47,48,49,50,51,52,53])],jn:=[(1,(2,3,56))] }
def gm:Ann:={ av:=[(7,[253])],jn:=[(5,(32,17,32))],lp:=[(5,⟨[0,3,6,7],[.s 3 0,.s 6 8],[0,3,6,7],[.s 3 0,.s 6 8]⟩)],sh:=[.z 8,.n] }
def fe:Ann:={ av:=[(8,[254])],jn:=[(5,(29,16,29))],lp:=[(5,⟨[0,3,6,7],[.s 3 0,.s 6 3],[0,3,6,7],[.s 3 0,.s 6 3]⟩)],sh:=[.z 3,.n] }
def lW:Ann:={ jn:=[(3,(32,14,32))],sh:=[.z 3,.n] }
def l5:Ann:={ ot:=[(5,.one 0 (.one 2 (.alt (.one 1 (.one 3 (.one 4 (.one 5 (.done))))) (.one 3 (.one 1 (.one 4 (.one 5 (.done))))))))],sh:=[.z 5,.n] }
def aC:Ann:={ jn:=[(1,(19,8,19))],sh:=[.a [0,8,3,3,5,4,5,4,0],.n] }
def dY:Ann:={ av:=[(7,[259])],jn:=[(2,(24,10,24)),(5,(39,26,39))],lp:=[(5,⟨[0,3,6,7],[.s 3 0,.s 6 5],[0,3,6,7],[.s 3 0,.s 6 5]⟩)],sh:=[.z 5,.n] }
def lG:Ann:={}
def lw:Ann:={}
def lr:Ann:={ jn:=[(1,(5,6,19)),(3,(19,20,30))] }
def mF:Ann:={ jn:=[(3,(22,16,22)),(6,(47,29,47))],sh:=[.z 5,.n] }
def lz:Ann:={ jn:=[(2,(24,11,24))] }
def fo:Ann:={ jn:=[(6,(35,16,35))],lp:=[(4,⟨[1,5,6,10,11,12],[.s 5 0],[5],[.s 5 0]⟩)] }
def ly:Ann:={ sh:=[.a [0,8,3,3,5,4,5,4,0],.n] }
def mj:Ann:={ jn:=[(1,(12,5,12))] }
def mw:Ann:={ ot:=[(1,.one 0 (.one 2 (.alt (.one 1 (.one 3 (.one 4 (.one 5 (.done))))) (.one 3 (.one 1 (.one 4 (.one 5 (.done))))))))],sh:=[.z 4,.n] }
def lI:Ann:={ jn:=[(1,(12,5,12))] }
def jx:Ann:={ sh:=[.z 2] }
def kY:Ann:={ jn:=[(1,(6,7,15))] }
def lh:Ann:={}
def Ld:Ann:={ lp:=[(2,⟨[0,1,7,8],[],[],[]⟩)],rt:=⟨[4],[],[],[]⟩ }
def jZ:Ann:={}
def lX:Ann:={ jn:=[(1,(19,7,19))] }
def mM:Ann:={}
def fh:Ann:={ lp:=[(3,⟨[1,5,9,10,11],[.s 5 5],[5],[.s 5 5]⟩)],sh:=[.z 5] }
def jt:Ann:={}
def gj:Ann:={ lp:=[(2,⟨[0,1,7,8],[],[],[]⟩)],rt:=⟨[4],[],[],[]⟩ }
def mO:Ann:={}
def jN:Ann:={ jn:=[(1,(4,5,13))] }
def Y8:Ann:={}
def jX:Ann:={ jn:=[(1,(3,4,14))] }
def gf:Ann:={ jn:=[(6,(58,15,58))],lp:=[(4,⟨[0,8,9,10],[],[],[]⟩)],rt:=⟨[2],[],[],[]⟩ }
def fi:Ann:={ lp:=[(3,⟨[1,5,8,9,10],[],[5],[]⟩)] }
def cT:Ann:={ lp:=[(5,⟨[1,5,12,13,14],[],[5],[]⟩)] }
def cD:Ann:={ jn:=[(6,(38,22,38))],lp:=[(3,⟨[1,3,13,14,15],[.s 1 0,.s 3 1],[],[]⟩)],rt:=⟨[2],[],[],[]⟩ }
def ej:Ann:={ jn:=[(4,(20,13,20)),(6,(38,26,38))],lp:=[(2,⟨[1,7,8,9],[.s 1 0],[],[]⟩)],rt:=⟨[2],[],[],[]⟩ }
def eG:Ann:={ jn:=[(4,(20,13,20)),(6,(38,26,38))],lp:=[(2,⟨[1,7,8,9],[.s 1 0],[],[]⟩)],rt:=⟨[2],[],[],[]⟩ }
def cG:Ann:={ jn:=[(7,(2,21,29))],lp:=[(3,⟨[1,3,8,9,10],[.s 1 0,.s 8 1],[1,3],[.s 1 0]⟩)] }
def fT:Ann:={ jn:=[(4,(37,14,37))],lp:=[(2,⟨[0,1,2,7],[],[],[]⟩)],rt:=⟨[6],[],[],[]⟩ }
def mA:Ann:={ jn:=[(1,(2,3,18))] }
def kr:Ann:={ jn:=[(1,(2,3,26))] }
def ex:Ann:={ lp:=[(2,⟨[0,1,5],[],[],[]⟩)],rt:=⟨[4],[],[],[]⟩ }
def ga:Ann:={ jn:=[(4,(43,10,43))],lp:=[(2,⟨[0,3],[],[0],[]⟩)],rt:=⟨[2],[],[],[]⟩ }
def li:Ann:={}
def gq:Ann:={ lp:=[(3,⟨[0,1,2,7,8],[],[7],[]⟩)] }
def dO:Ann:={ jn:=[(3,(16,9,16)),(6,(42,28,42))],lp:=[(3,⟨[0,1,5,6],[.s 5 1],[5],[.s 5 1]⟩)],sh:=[.z 1] }
def kq:Ann:={ jn:=[(1,(2,3,26))] }
def fM:Ann:={ jn:=[(5,(44,13,44))],lp:=[(3,⟨[0,1,5,6],[],[0,5],[]⟩)] }
def da:Ann:={ lp:=[(2,⟨[0,1,5],[],[],[]⟩)],rt:=⟨[4],[],[],[]⟩ }
def mn:Ann:={}
def eM:Ann:={ jn:=[(3,(21,15,21))],lp:=[(6,⟨[6,7,8],[.s 6 3],[6],[.s 6 3]⟩)],sh:=[.z 3,.n] }
def mL:Ann:={ ot:=[(1,.one 1 (.alt (.one 0 (.alt (.one 2 (.one 3 (.one 4 (.one 5 (.one 6 (.done)))))) (.one 3 (.alt (.one 2 (.one 4 (.one 5 (.one 6 (.done))))) (.one 4 (.one 2 (.one 5 (.one 6 (.done))))))))) (.one 3 (.alt (.one 0 (.alt (.one 2 (.one 4 (.one 5 (.one 6 (.done))))) (.one 4 (.one 2 (.one 5 (.one 6 (.done))))))) (.one 4 (.one 0 (.one 2 (.one 5 (.one 6 (.done))))))))))],sh:=[.z 4,.n] }
def md:Ann:={}
def aB:Ann:={ jn:=[(4,(26,11,26))],lp:=[(2,⟨[0,3],[],[0],[]⟩),(7,⟨[0,3,4],[],[0,3],[]⟩)],rt:=⟨[2],[],[],[]⟩ }
def YT:Ann:={ ot:=[(8,.one 1 (.one 2 (.one 3 (.one 5 (.one 6 (.one 11 (.one 12 (.one 13 (.alt (.one 0 (.alt (.one 4 (.one 7 (.one 8 (.one 9 (.one 10 (.one 14 (.one 15 (.done)))))))) (.one 7 (.alt (.one 4 (.one 8 (.one 9 (.one 10 (.one 14 (.one 15 (.done))))))) (.one 8 (.alt (.one 4 (.one 9 (.one 10 (.one 14 (.one 15 (.done)))))) (.one 9 (.one 4 (.one 10 (.one 14 (.one 15 (.done)))))))))))) (.one 7 (.alt (.one 0 (.alt (.one 4 (.one 8 (.one 9 (.one 10 (.one 14 (.one 15 (.done))))))) (.one 8 (.alt (.one 4 (.one 9 (.one 10 (.one 14 (.one 15 (.done)))))) (.one 9 (.one 4 (.one 10 (.one 14 (.one 15 (.done)))))))))) (.one 8 (.alt (.one 0 (.alt (.one 4 (.one 9 (.one 10 (.one 14 (.one 15 (.done)))))) (.one 9 (.one 4 (.one 10 (.one 14 (.one 15 (.done)))))))) (.one 9 (.one 0 (.one 4 (.one 10 (.one 14 (.one 15 (.done))))))))))))))))))))],fz:=[(8,[3])],jn:=[(6,(30,15,30))],lp:=[(3,⟨[0,3,4],[.s 3 3],[3],[.s 3 3]⟩),(6,⟨[0,3,4,5],[.s 3 3],[0,3,4,5],[.s 3 3]⟩)],sh:=[.z 3] }
def TY:Ann:={ jn:=[(9,(43,31,43))],lp:=[(4,⟨[0,1,5,6,7],[.s 5 1],[0,1,5,6],[.s 5 1]⟩),(13,⟨[0,1,5,6,8,9],[.s 5 1],[5,8],[.s 5 1]⟩),(18,⟨[5,8,10],[.s 5 1],[5],[.s 5 1]⟩)],rt:=⟨[4],[.s 4 1],[],[]⟩,sh:=[.z 1] }
def lD:Ann:={}
def cL:Ann:={ jn:=[(4,(41,13,41))],lp:=[(2,⟨[2,3,5],[.s 2 0,.s 3 0],[],[]⟩)],rt:=⟨[4],[],[],[]⟩ }
def eA:Ann:={ ord:=[(5,[0,1,2,3,4,5,7,8,9,10,11,6,12,13])],lp:=[(3,⟨[0,3,4],[.s 3 1],[3],[.s 3 1]⟩)],sh:=[.z 1] }
def kD:Ann:={}
def dm:Ann:={ lp:=[(3,⟨[0,3,4],[],[3],[]⟩)] }
def gr:Ann:={ jn:=[(4,(33,16,33))],lp:=[(2,⟨[0,1,2,9,10,11],[],[],[]⟩)],rt:=⟨[6],[],[],[]⟩ }
def jU:Ann:={ jn:=[(1,(2,3,18))] }
def lS:Ann:={ jn:=[(1,(2,3,26))] }
def lj:Ann:={ jn:=[(1,(4,5,13))] }
def eQ:Ann:={ jn:=[(6,(51,15,51))],lp:=[(4,⟨[0,8,9,10],[],[],[]⟩)],rt:=⟨[2],[],[],[]⟩ }
def ek:Ann:={ jn:=[(6,(54,15,54))],lp:=[(4,⟨[0,8,9,10],[],[],[]⟩)],rt:=⟨[2],[],[],[]⟩ }
def YJ:Ann:={ jn:=[(6,(59,17,59)),(11,(82,68,82))],lp:=[(4,⟨[0,10,11,12],[],[],[]⟩),(9,⟨[0,4,10,11,12,62,63,64],[.s 4 0],[0,10,11,12],[]⟩)],rt:=⟨[2],[],[],[]⟩ }
def dB:Ann:={ jn:=[(7,(61,17,61)),(13,(83,73,83))],lp:=[(5,⟨[0,3,10,11,12],[],[],[]⟩)],rt:=⟨[2],[],[],[]⟩ }
def Un:Ann:={ ord:=[(7,[0,1,2,3,4,5,6,7,8,9,10,11,12,13,14,15,18,19,20,21,16,17,22,23,24])],jn:=[(7,(54,30,54)),(13,(73,63,73))],lp:=[(5,⟨[1,3,23,24,25],[.s 1 0,.s 3 1],[1,3],[.s 1 0,.s 3 1]⟩),(11,⟨[1,3,57,58,59],[.s 1 0,.s 3 1],[1,3],[.s 1 0,.s 3 1]⟩),(17,⟨[1,75,76,77],[.s 1 0,.s 75 1],[],[]⟩)],rt:=⟨[2],[],[],[]⟩ }
def fE:Ann:={ ord:=[(7,[0,1,2,3,4,5,6,7,8,9,10,11,12,13,14,15,16,17,18,19,20,21,22,24,26,27,23,25,28,29,30])],jn:=[(7,(56,26,56))],lp:=[(4,⟨[1,14,15,16],[.s 1 0],[],[]⟩)],rt:=⟨[2],[],[],[]⟩ }
def SB:Ann:={ lp:=[(3,⟨[1,3,13,14,15],[.s 1 0],[1,3],[.s 1 0]⟩),(8,⟨[1,3,25,26,27],[.s 1 0],[1,3],[.s 1 0]⟩),(13,⟨[1,3,37,38,39],[.s 1 0],[1,3],[.s 1 0]⟩),(18,⟨[3,49,50,51],[],[3],[]⟩)] }
def c7:Ann:={ jn:=[(5,(37,15,37))],lp:=[(3,⟨[0,1,5,8,9,10],[],[5],[]⟩)] }
def kX:Ann:={}
def lL:Ann:={}
def k0:Ann:={ jn:=[(1,(3,4,16))] }
def cV:Ann:={ lp:=[(2,⟨[0,1,7,8],[],[],[]⟩)],rt:=⟨[4],[],[],[]⟩ }
def mE:Ann:={}
def dC:Ann:={ lp:=[(2,⟨[1,7,8,9],[],[],[]⟩)],rt:=⟨[4],[],[],[]⟩ }
def ms:Ann:={ jn:=[(1,(2,3,26))] }
def dr:Ann:={ jn:=[(6,(39,15,39))],lp:=[(4,⟨[0,8,9,10],[],[],[]⟩)],rt:=⟨[2],[],[],[]⟩ }
def lf:Ann:={}
def lO:Ann:={ jn:=[(3,(19,13,19))],sh:=[.z 3,.n] }
def dw:Ann:={ jn:=[(6,(24,15,24))],lp:=[(4,⟨[0,8,9,10],[],[],[]⟩)],rt:=⟨[2],[],[],[]⟩ }
def jI:Ann:={ ac:=[(2,0)],sh:=[.z 3] }
def U2:Ann:={ jn:=[(2,(23,15,23))],lp:=[(6,⟨[0,1,5,6,25,26,27],[.s 5 1],[0,1,5,6],[.s 5 1]⟩),(16,⟨[0,5,6,9,43,44,45],[.s 5 1],[5,9],[.s 5 1]⟩),(23,⟨[5,9,13],[.s 5 1],[5],[.s 5 1]⟩)],rt:=⟨[4],[.s 4 1],[],[]⟩,sh:=[.z 1] }
def eB:Ann:={ lp:=[(2,⟨[0,1,7,8],[],[],[]⟩)],rt:=⟨[4],[],[],[]⟩ }
def mD:Ann:={}
def d8:Ann:={ lp:=[(3,⟨[3,6,7,8],[],[3],[]⟩)] }
def dX:Ann:={ lp:=[(2,⟨[0,1,7,8],[],[],[]⟩)],rt:=⟨[4],[],[],[]⟩ }
def lu:Ann:={}
def kZ:Ann:={}
def eV:Ann:={ ac:=[(10,0)],jn:=[(7,(36,20,36))],lp:=[(5,⟨[0,1,5,13,14,15],[.s 5 1],[5],[.s 5 1]⟩)],sh:=[.z 1] }
def gp:Ann:={ lp:=[(2,⟨[0,1,5],[],[],[]⟩)],rt:=⟨[4],[],[],[]⟩ }
def lC:Ann:={}
def lB:Ann:={ jn:=[(1,(4,5,14))] }
def fb:Ann:={ lp:=[(3,⟨[3,7,8,9],[.s 3 1],[3],[.s 3 1]⟩)],sh:=[.z 1] }
def fg:Ann:={ ot:=[(6,.one 1 (.one 2 (.one 3 (.one 5 (.one 8 (.one 9 (.one 10 (.alt (.one 0 (.alt (.one 4 (.one 6 (.one 7 (.one 11 (.one 12 (.done)))))) (.one 6 (.one 4 (.one 7 (.one 11 (.one 12 (.done)))))))) (.one 6 (.one 0 (.one 4 (.one 7 (.one 11 (.one 12 (.done)))))))))))))))],jn:=[(2,(17,6,17)),(4,(31,20,31))],lp:=[(2,⟨[0,1,5],[],[0,1,5],[]⟩)],sh:=[.z 1] }
def jA:Ann:={ jn:=[(5,(10,11,17))] }
def mo:Ann:={}
def jW:Ann:={}
def cY:Ann:={ lp:=[(2,⟨[0,1,7,8],[],[],[]⟩)],rt:=⟨[4],[],[],[]⟩ }
def kS:Ann:={ jn:=[(1,(2,3,11))] }
def k7:Ann:={}
def kb:Ann:={}
def kj:Ann:={ sh:=[.z 3] }
def jB:Ann:={ ak:=[0],ac:=[(0,0)] }
def mH:Ann:={}
def kz:Ann:={}
def ju:Ann:={}
def lF:Ann:={}
def cP:Ann:={ lp:=[(2,⟨[0,1,7,8],[],[],[]⟩)],rt:=⟨[4],[],[],[]⟩ }
def mQ:Ann:={ jn:=[(1,(3,4,21))] }
def lZ:Ann:={ ac:=[(2,0),(3,0)],sh:=[.z 1] }
def c6:Ann:={ lp:=[(2,⟨[0,1,7,8],[],[],[]⟩)],rt:=⟨[4],[],[],[]⟩ }
def U4:Ann:={ ak:=[0],ac:=[(3,0),(6,0)],lp:=[(2,⟨[0,1,2,6,7,8],[.s 0 3],[0,1,2,6,7],[.s 0 3]⟩),(7,⟨[0,1,2,6],[.s 0 3],[0],[.s 0 3]⟩),(9,⟨[0,1,2,6,7,8],[.s 0 3],[0,1,2,6,7],[.s 0 3]⟩)] }
def lV:Ann:={}
def mI:Ann:={}
def Yz:Ann:={ lp:=[(3,⟨[0,3,9,10,11],[],[0,3],[]⟩),(11,⟨[6,25,26,27],[.s 6 1],[6],[.s 6 1]⟩)],sh:=[.z 1] }
def Y5:Ann:={ ak:=[0],jn:=[(4,(34,18,34))],lp:=[(1,⟨[0,1,2,3,8],[.s 0 3],[0],[.s 0 3]⟩),(4,⟨[0,1,2,3,8,9],[.s 0 3],[0,1,2,3,8],[.s 0 3]⟩)] }
noncomputable def T:Tld:={ P:=Tryz.prog,ann:=[(3,An3),(4,An4),(5,An5),(6,An6),(7,An7),(8,An8),(9,An9),(11,uu),(12,uB),(13,uw),(14,xu),(15,vo),(16,vL),(17,pN),(18,tC),(19,qD),(20,yH),(21,xO),(22,uR),(23,vz),(24,ww),(25,yX),(26,yv),(28,vv),(29,uW),(30,wi),(32,pD),(33,rD),(34,tG),(35,xj),(36,xf),(37,qY),(38,tM),(39,pK),(40,qA),(41,rU),(42,xW),(43,xb),(44,qJ),(45,tj),(46,qr),(47,xn),(48,wm),(49,s9),(50,uL),(51,sJ),(52,yU),(53,vC),(54,vu),(55,xL),(56,xz),(57,pP),(58,se),(59,ph),(60,wU),(61,yE),(62,qE),(63,tU),(64,vJ),(65,ye),(66,rc),(67,tf),(68,wn),(69,qB),(70,yD),(71,ue),(75,yt),(76,re),(77,vq),(78,xk),(79,vB),(80,wS),(81,vU),(82,ul),(83,rN),(84,yo),(85,qz),(86,xB),(90,yy),(91,uG),(92,qw),(93,yh),(94,yf),(95,vg),(96,yV),(97,wY),(98,yp),(99,uK),(100,lH),(101,ku),(102,kF),(103,kM),(104,kf),(105,kR),(106,kh),(107,cH),(108,mv),(109,mN),(110,lq),(111,dG),(112,kQ),(113,mh),(114,dv),(115,cO),(116,jz),(117,kw),(118,kW),(119,kN),(120,eU),(121,jV),(122,kL),(123,jr),(124,e8),(125,YZ),(126,aA),(127,gb),(128,fP),(129,UY),(130,dA),(131,dn),(132,gk),(133,fm),(134,kE),(135,lm),(136,dL),(137,cJ),(138,mf),(139,lT),(140,dF),(141,me),(142,k6),(143,mS),(144,j7),(145,jG),(146,kn),(147,kJ),(148,cF),(149,dl),(150,dH),(151,fY),(152,jL),(153,cM),(154,fA),(155,kl),(160,lc),(162,mb),(163,l6),(164,ep),(165,kt),(169,km),(170,kP),(171,lK),(172,gm),(173,fe),(174,lW),(175,l5),(176,aC),(177,dY),(178,lG),(180,lw),(181,lr),(182,mF),(183,lz),(184,fo),(185,ly),(186,mj),(187,mw),(188,lI),(189,jx),(190,kY),(191,lh),(192,Ld),(193,jZ),(194,lX),(195,mM),(196,fh),(197,jt),(198,gj),(199,mO),(200,jN),(201,Y8),(202,jX),(203,gf),(204,fi),(205,cT),(206,cD),(207,ej),(208,eG),(209,cG),(210,fT),(211,mA),(212,kr),(213,ex),(214,ga),(215,li),(216,gq),(217,dO),(218,kq),(219,fM),(220,da),(221,mn),(222,eM),(223,mL),(224,md),(225,aB),(226,YT),(227,TY),(228,lD),(229,cL),(230,eA),(231,kD),(232,dm),(239,gr),(240,jU),(244,lS),(245,lj),(246,eQ),(247,ek),(248,YJ),(249,dB),(250,Un),(251,fE),(252,SB),(255,c7),(256,kX),(257,lL),(258,k0),(260,cV),(261,mE),(264,dC),(265,ms),(266,dr),(267,lf),(268,lO),(269,dw),(270,jI),(271,U2),(272,eB),(273,mD),(274,d8),(275,dX),(276,lu),(277,kZ),(278,eV),(279,gp),(280,lC),(281,lB),(282,fb),(283,fg),(284,jA),(288,mo),(289,jW),(294,cY),(298,kS),(299,k7),(300,kb),(301,kj),(302,jB),(303,mH),(304,kz),(305,ju),(306,lF),(308,cP),(309,mQ),(310,lZ),(319,c6),(320,U4),(321,lV),(322,mI),(325,Yz),(335,Y5)],xt:=xt,st:=λg=>Nat.beq g 307,qt:=λg=>Nat.beq g 326,pz:=[(9,[.a [0,8,3,3,5,4,5,4,0],.n]),(11,[.a [0,8,3,3,5,4,5,4,0],.n]),(14,[.a [0,8,3,3,5,4,5,4,0]]),(171,[.a [0,8,3,3,5,4,5,4,0]]),(257,[.z 1,.n])],vt:=λg=>Nat.beq g 22||Nat.beq g 135||Nat.beq g 143||Nat.beq g 176||Nat.beq g 179||Nat.beq g 253||Nat.beq g 254||Nat.beq g 259,mt:=mt }
theorem TP:T.P=Tryz.prog:=Qj
theorem TZ:T.pz=[(9,[.a [0,8,3,3,5,4,5,4,0],.n]),(11,[.a [0,8,3,3,5,4,5,4,0],.n]),(14,[.a [0,8,3,3,5,4,5,4,0]]),(171,[.a [0,8,3,3,5,4,5,4,0]]),(257,[.z 1,.n])]:=Qj
theorem yK(n:Nat)(args:List AV):CP T n 336 args=none:=by
 cases n with
 |zero=>rfl
 |succ n=>rw[nE T n 336 args (by kernel_rfl)];first|rfl|(show xt 336 args=none;unfold xt;split<;>first|rfl|(rw[if_neg (by decide)]))
def eY:=aI evT<|aI Qlf<|aI @QpE<|aI @WL<|@Vx
def eZ:=aI evB<|aI evT<|aI tys<|aI Qlf<|aI TP<|aI TZ<|aI (@Qfj T)<|aI (@Qjg T)<|aI (@Qe1 T)<|aI @yK<|@Qjj T
theorem Fc(n:Nat)(s t:List UInt8):CP T (n+1) 10 [.s s,.s t]=(strings_Split s t).map λr=>.own 1 (r.map c_s):=by rw[nE T n 10 _ (by kernel_rfl)];rfl
theorem Eg(n:Nat){R}{l:List (List UInt8)}(s:List UInt8)[H1:EncL c_s R l]:CP T (n+1) 31 [.imm 1 R,.s s]=(strings_Join l s).map λr=>.s r:=by
 obtain⟨rfl⟩:=H1;rw[nE T n 31 _ (by kernel_rfl)]
 show(Oe (l.map c_s)).bind _=_;rw[Wx];rfl
theorem W7(n:Nat)(s t:List UInt8):CP T (n+1) 161 [.s s,.s t]=(strings_Cut s t).map λr=>.tup [.s r.1,.s r.2.1,.b r.2.2]:=by rw[nE T n 161 _ (by kernel_rfl)];rfl
theorem Ww(n:Nat)(x:Int):CP T (n+1) 168 [.i .i64 x]=(strconv_Itoa x).map λr=>.s r:=by rw[nE T n 168 _ (by kernel_rfl)];rfl
theorem O6(n:Nat)(x:Int):CP T (n+1) 347 [.nil,.i .i64 x]=(Bp x).map λr=>.own 1 (r.map QA):=by rw[nE T n 347 _ (by kernel_rfl)];rfl
theorem vA(n:Nat){R}{xs:List Trial}(i:Int){V}{ys:List Trial}[H1:EncL VC R xs][H2:EncL VC V ys]:CM T (n+1) 179 [some (.lst 4 R),some (.lst 4 V)] [.sl 0,.i .i64 i,.sl 1]=VI (Gu xs i ys 32) (some (.own 4 ((Vt xs i ys).map VC))) ():=by
 rcases H1,H2 with⟨⟨rfl⟩,⟨rfl⟩⟩
 rw[v6 T n 179 _ _ (by kernel_rfl)]
 show(if 4=4∧4=4∧QF (xs.map VC)=true∧QF (ys.map VC)=true then VI (Gu (xs.map VC) i (ys.map VC) 32) (some (AV.own 4 (Vt (xs.map VC) i (ys.map VC)))) ()else none)=_
 rw[if_pos ⟨rfl,rfl,Pn xs,Pn ys⟩,cA,cr]
theorem v7(n:Nat){R}{xs:List Find}(i:Int){V}{ys:List Find}[H1:EncL Q4 R xs][H2:EncL Q4 V ys]:CM T (n+1) 253 [some (.lst 8 R),some (.lst 8 V)] [.sl 0,.i .i64 i,.sl 1]=VI (Gu xs i ys 64) (some (.own 8 ((Vt xs i ys).map Q4))) ():=by
 rcases H1,H2 with⟨⟨rfl⟩,⟨rfl⟩⟩
 rw[v6 T n 253 _ _ (by kernel_rfl)]
 show(if 8=8∧8=8∧QF (xs.map Q4)=true∧QF (ys.map Q4)=true then VI (Gu (xs.map Q4) i (ys.map Q4) 64) (some (AV.own 8 (Vt (xs.map Q4) i (ys.map Q4)))) ()else none)=_
 rw[if_pos ⟨rfl,rfl,Tw xs,Tw ys⟩,cA,cr]
theorem xT(n:Nat){R}{xs:List Secret}(i:Int){V}{ys:List Secret}[H1:EncL Vk R xs][H2:EncL Vk V ys]:CM T (n+1) 254 [some (.lst 3 R),some (.lst 3 V)] [.sl 0,.i .i64 i,.sl 1]=VI (Gu xs i ys 40) (some (.own 3 ((Vt xs i ys).map Vk))) ():=by
 rcases H1,H2 with⟨⟨rfl⟩,⟨rfl⟩⟩
 rw[v6 T n 254 _ _ (by kernel_rfl)]
 show(if 3=3∧3=3∧QF (xs.map Vk)=true∧QF (ys.map Vk)=true then VI (Gu (xs.map Vk) i (ys.map Vk) 40) (some (AV.own 3 (Vt (xs.map Vk) i (ys.map Vk)))) ()else none)=_
 rw[if_pos ⟨rfl,rfl,Mm xs,Mm ys⟩,cA,cr]
theorem xN(n:Nat){R}{xs:List Claim}(i:Int){V}{ys:List Claim}[H1:EncL Qz R xs][H2:EncL Qz V ys]:CM T (n+1) 259 [some (.lst 5 R),some (.lst 5 V)] [.sl 0,.i .i64 i,.sl 1]=VI (Gu xs i ys 40) (some (.own 5 ((Vt xs i ys).map Qz))) ():=by
 rcases H1,H2 with⟨⟨rfl⟩,⟨rfl⟩⟩
 rw[v6 T n 259 _ _ (by kernel_rfl)]
 show(if 5=5∧5=5∧QF (xs.map Qz)=true∧QF (ys.map Qz)=true then VI (Gu (xs.map Qz) i (ys.map Qz) 40) (some (AV.own 5 (Vt (xs.map Qz) i (ys.map Qz)))) ()else none)=_
 rw[if_pos ⟨rfl,rfl,Ox xs,Ox ys⟩,cA,cr]
theorem QpV:cI=QA:=Qj
theorem Qdy(xs:List Int):F7 (xs.map QA)=some xs:=iM xs
theorem Qca:T.st 307=true:=by kernel_rfl
theorem Qbm:T.st 326=false:=by kernel_rfl
theorem Qd0:T.qt 326=true:=by kernel_rfl
theorem Qoh:T.st 7=false:=by kernel_rfl
theorem Qot:T.qt 7=false:=by kernel_rfl
theorem Qpi:T.wt 7=true:=by kernel_rfl
theorem Qsp:T.vt 7=false:=by kernel_rfl
theorem QfB:T.st 22=false:=by kernel_rfl
theorem QiR:T.qt 22=false:=by kernel_rfl
theorem QhO:T.wt 22=false:=by kernel_rfl
theorem Qg0:T.vt 22=true:=by kernel_rfl
theorem Qep:T.st 135=false:=by kernel_rfl
theorem Qdu:T.qt 135=false:=by kernel_rfl
theorem Qd9:T.wt 135=false:=by kernel_rfl
theorem Qec:T.vt 135=true:=by kernel_rfl
theorem QdG:T.st 143=false:=by kernel_rfl
theorem Qdt:T.qt 143=false:=by kernel_rfl
theorem Qel:T.wt 143=false:=by kernel_rfl
theorem Qea:T.vt 143=true:=by kernel_rfl
theorem Qc3:T.st 176=false:=by kernel_rfl
theorem Qbr:T.qt 176=false:=by kernel_rfl
theorem Qek:T.wt 176=false:=by kernel_rfl
theorem Qcx:T.vt 176=true:=by kernel_rfl
theorem Qb8:T.st 179=false:=by kernel_rfl
theorem QdU:T.qt 179=false:=by kernel_rfl
theorem Qcg:T.wt 179=false:=by kernel_rfl
theorem QbX:T.vt 179=true:=by kernel_rfl
theorem Qer:T.st 253=false:=by kernel_rfl
theorem Qd7:T.qt 253=false:=by kernel_rfl
theorem Qeo:T.wt 253=false:=by kernel_rfl
theorem Qcw:T.vt 253=true:=by kernel_rfl
theorem QdL:T.st 254=false:=by kernel_rfl
theorem Qa6:T.qt 254=false:=by kernel_rfl
theorem QbP:T.wt 254=false:=by kernel_rfl
theorem QbY:T.vt 254=true:=by kernel_rfl
theorem Qcu:T.st 259=false:=by kernel_rfl
theorem Qb4:T.qt 259=false:=by kernel_rfl
theorem QcM:T.wt 259=false:=by kernel_rfl
theorem QcI:T.vt 259=true:=by kernel_rfl
theorem QbG:T.st 302=false:=by kernel_rfl
theorem Qc6:T.qt 302=false:=by kernel_rfl
theorem QcZ:T.wt 302=true:=by kernel_rfl
theorem QcU:T.vt 302=false:=by kernel_rfl
theorem QdR:T.st 320=false:=by kernel_rfl
theorem Qb2:T.qt 320=false:=by kernel_rfl
theorem Qc7:T.wt 320=true:=by kernel_rfl
theorem Qd3:T.vt 320=false:=by kernel_rfl
theorem QdK:T.st 335=false:=by kernel_rfl
theorem Qdr:T.qt 335=false:=by kernel_rfl
theorem Qdd:T.wt 335=true:=by kernel_rfl
theorem QbN:T.vt 335=false:=by kernel_rfl
def srt:=aI @QpV<|aI @Qdy<|aI @Qlq<|aI @QfV<|aI @QkO<|aI @Qnt<|aI @Qca<|aI @Qbm<|aI @Qd0<|aI @Qoh<|aI @Qot<|aI @Qpi<|aI @Qsp<|aI @QfB<|aI @QiR<|aI @QhO<|aI @Qg0<|aI @Qep<|aI @Qdu<|aI @Qd9<|aI @Qec<|aI @QdG<|aI @Qdt<|aI @Qel<|aI @Qea<|aI @Qc3<|aI @Qbr<|aI @Qek<|aI @Qcx<|aI @Qb8<|aI @QdU<|aI @Qcg<|aI @QbX<|aI @Qer<|aI @Qd7<|aI @Qeo<|aI @Qcw<|aI @QdL<|aI @Qa6<|aI @QbP<|aI @QbY<|aI @Qcu<|aI @Qb4<|aI @QcM<|aI @QcI<|aI @QbG<|aI @Qc6<|aI @QcZ<|aI @QcU<|aI @QdR<|aI @Qb2<|aI @Qc7<|aI @Qd3<|aI @QdK<|aI @Qdr<|aI @Qdd @QbN
theorem Aa3:T.at 3=some An3:=by kernel_rfl
theorem Aa4:T.at 4=some An4:=by kernel_rfl
theorem Aa5:T.at 5=some An5:=by kernel_rfl
theorem Aa6:T.at 6=some An6:=by kernel_rfl
theorem Aa7:T.at 7=some An7:=by kernel_rfl
theorem Aa8:T.at 8=some An8:=by kernel_rfl
theorem Aa9:T.at 9=some An9:=by kernel_rfl
theorem Qf2:T.at 11=some uu:=by kernel_rfl
theorem Qix:T.at 12=some uB:=by kernel_rfl
theorem QnB:T.at 13=some uw:=by kernel_rfl
theorem Qqw:T.at 14=some xu:=by kernel_rfl
theorem Qri:T.at 15=some vo:=by kernel_rfl
theorem Qph:T.at 16=some vL:=by kernel_rfl
theorem QhL:T.at 17=some pN:=by kernel_rfl
theorem Qgl:T.at 18=some tC:=by kernel_rfl
theorem Qlk:T.at 19=some qD:=by kernel_rfl
theorem QsJ:T.at 20=some yH:=by kernel_rfl
theorem QsO:T.at 21=some xO:=by kernel_rfl
theorem QoT:T.at 22=some uR:=by kernel_rfl
theorem QqW:T.at 23=some vz:=by kernel_rfl
theorem Qsy:T.at 24=some ww:=by kernel_rfl
theorem Qtq:T.at 25=some yX:=by kernel_rfl
theorem Qor:T.at 26=some yv:=by kernel_rfl
theorem Qra:T.at 28=some vv:=by kernel_rfl
theorem Qpy:T.at 29=some uW:=by kernel_rfl
theorem Qsj:T.at 30=some wi:=by kernel_rfl
theorem Qfy:T.at 32=some pD:=by kernel_rfl
theorem Qfp:T.at 33=some rD:=by kernel_rfl
theorem Qe4:T.at 34=some tG:=by kernel_rfl
theorem QoO:T.at 35=some xj:=by kernel_rfl
theorem QrV:T.at 36=some xf:=by kernel_rfl
theorem Qfv:T.at 37=some qY:=by kernel_rfl
theorem Qip:T.at 38=some tM:=by kernel_rfl
theorem Qfb:T.at 39=some pK:=by kernel_rfl
theorem QeI:T.at 40=some qA:=by kernel_rfl
theorem QgA:T.at 41=some rU:=by kernel_rfl
theorem Qs9:T.at 42=some xW:=by kernel_rfl
theorem Qo9:T.at 43=some xb:=by kernel_rfl
theorem Qni:T.at 44=some qJ:=by kernel_rfl
theorem Qmi:T.at 45=some tj:=by kernel_rfl
theorem QeW:T.at 46=some qr:=by kernel_rfl
theorem Qo6:T.at 47=some xn:=by kernel_rfl
theorem Qtd:T.at 48=some wm:=by kernel_rfl
theorem QmQ:T.at 49=some s9:=by kernel_rfl
theorem Qs7:T.at 50=some uL:=by kernel_rfl
theorem Qi9:T.at 51=some sJ:=by kernel_rfl
theorem Qtb:T.at 52=some yU:=by kernel_rfl
theorem Qog:T.at 53=some vC:=by kernel_rfl
theorem Qrz:T.at 54=some vu:=by kernel_rfl
theorem QoB:T.at 55=some xL:=by kernel_rfl
theorem QnY:T.at 56=some xz:=by kernel_rfl
theorem Qft:T.at 57=some pP:=by kernel_rfl
theorem Qi3:T.at 58=some se:=by kernel_rfl
theorem QfT:T.at 59=some ph:=by kernel_rfl
theorem Qn0:T.at 60=some wU:=by kernel_rfl
theorem QrS:T.at 61=some yE:=by kernel_rfl
theorem QnT:T.at 62=some qE:=by kernel_rfl
theorem QmN:T.at 63=some tU:=by kernel_rfl
theorem Qq7:T.at 64=some vJ:=by kernel_rfl
theorem Qo8:T.at 65=some ye:=by kernel_rfl
theorem QkR:T.at 66=some rc:=by kernel_rfl
theorem QkI:T.at 67=some tf:=by kernel_rfl
theorem QoC:T.at 68=some wn:=by kernel_rfl
theorem Qnc:T.at 69=some qB:=by kernel_rfl
theorem QoP:T.at 70=some yD:=by kernel_rfl
theorem QfL:T.at 71=some ue:=by kernel_rfl
theorem Qs2:T.at 75=some yt:=by kernel_rfl
theorem Qnr:T.at 76=some re:=by kernel_rfl
theorem Qp8:T.at 77=some vq:=by kernel_rfl
theorem QqL:T.at 78=some xk:=by kernel_rfl
theorem QpK:T.at 79=some vB:=by kernel_rfl
theorem Qou:T.at 80=some wS:=by kernel_rfl
theorem QsY:T.at 81=some vU:=by kernel_rfl
theorem QlW:T.at 82=some ul:=by kernel_rfl
theorem QeQ:T.at 83=some rN:=by kernel_rfl
theorem Qp1:T.at 84=some yo:=by kernel_rfl
theorem Qfx:T.at 85=some qz:=by kernel_rfl
theorem Qqb:T.at 86=some xB:=by kernel_rfl
theorem Qsq:T.at 90=some yy:=by kernel_rfl
theorem QrW:T.at 91=some uG:=by kernel_rfl
theorem QlA:T.at 92=some qw:=by kernel_rfl
theorem QpW:T.at 93=some yh:=by kernel_rfl
theorem QrZ:T.at 94=some yf:=by kernel_rfl
theorem QqH:T.at 95=some vg:=by kernel_rfl
theorem Qos:T.at 96=some yV:=by kernel_rfl
theorem QoA:T.at 97=some wY:=by kernel_rfl
theorem QsZ:T.at 98=some yp:=by kernel_rfl
theorem QqR:T.at 99=some uK:=by kernel_rfl
theorem Qhd:T.at 100=some lH:=by kernel_rfl
theorem Qjf:T.at 101=some ku:=by kernel_rfl
theorem Qjh:T.at 102=some kF:=by kernel_rfl
theorem Qfh:T.at 103=some kM:=by kernel_rfl
theorem QhE:T.at 104=some kf:=by kernel_rfl
theorem QnP:T.at 105=some kR:=by kernel_rfl
theorem QjM:T.at 106=some kh:=by kernel_rfl
theorem zR:T.at 107=some cH:=by kernel_rfl
theorem QeU:T.at 108=some mv:=by kernel_rfl
theorem QkX:T.at 109=some mN:=by kernel_rfl
theorem Qjw:T.at 110=some lq:=by kernel_rfl
theorem zj:T.at 111=some dG:=by kernel_rfl
theorem QmU:T.at 112=some kQ:=by kernel_rfl
theorem Qj0:T.at 113=some mh:=by kernel_rfl
theorem QaJ:T.at 114=some dv:=by kernel_rfl
theorem QaK:T.at 115=some cO:=by kernel_rfl
theorem QlK:T.at 116=some jz:=by kernel_rfl
theorem Qjk:T.at 117=some kw:=by kernel_rfl
theorem Qne:T.at 118=some kW:=by kernel_rfl
theorem Qhq:T.at 119=some kN:=by kernel_rfl
theorem zI:T.at 120=some eU:=by kernel_rfl
theorem Qgu:T.at 121=some jV:=by kernel_rfl
theorem Qk8:T.at 122=some kL:=by kernel_rfl
theorem Qli:T.at 123=some jr:=by kernel_rfl
theorem Qan:T.at 124=some e8:=by kernel_rfl
theorem qP:T.at 125=some YZ:=by kernel_rfl
theorem qK:T.at 126=some aA:=by kernel_rfl
theorem QaU:T.at 127=some gb:=by kernel_rfl
theorem zE:T.at 128=some fP:=by kernel_rfl
theorem mz:T.at 129=some UY:=by kernel_rfl
theorem Qaa:T.at 130=some dA:=by kernel_rfl
theorem QaB:T.at 131=some dn:=by kernel_rfl
theorem zX:T.at 132=some gk:=by kernel_rfl
theorem QaF:T.at 133=some fm:=by kernel_rfl
theorem QlB:T.at 134=some kE:=by kernel_rfl
theorem Qgr:T.at 135=some lm:=by kernel_rfl
theorem QaQ:T.at 136=some dL:=by kernel_rfl
theorem QaA:T.at 137=some cJ:=by kernel_rfl
theorem QlR:T.at 138=some mf:=by kernel_rfl
theorem QlL:T.at 139=some lT:=by kernel_rfl
theorem QaG:T.at 140=some dF:=by kernel_rfl
theorem Qh3:T.at 141=some me:=by kernel_rfl
theorem Qgm:T.at 142=some k6:=by kernel_rfl
theorem Qjo:T.at 143=some mS:=by kernel_rfl
theorem Qex:T.at 144=some j7:=by kernel_rfl
theorem Qh2:T.at 145=some jG:=by kernel_rfl
theorem QkJ:T.at 146=some kn:=by kernel_rfl
theorem Qfd:T.at 147=some kJ:=by kernel_rfl
theorem Qar:T.at 148=some cF:=by kernel_rfl
theorem Qao:T.at 149=some dl:=by kernel_rfl
theorem zV:T.at 150=some dH:=by kernel_rfl
theorem zi:T.at 151=some fY:=by kernel_rfl
theorem Qkc:T.at 152=some jL:=by kernel_rfl
theorem z7:T.at 153=some cM:=by kernel_rfl
theorem Qap:T.at 154=some fA:=by kernel_rfl
theorem Qf7:T.at 155=some kl:=by kernel_rfl
theorem QeJ:T.at 160=some lc:=by kernel_rfl
theorem Qi8:T.at 162=some mb:=by kernel_rfl
theorem Qny:T.at 163=some l6:=by kernel_rfl
theorem y9:T.at 164=some ep:=by kernel_rfl
theorem QnD:T.at 165=some kt:=by kernel_rfl
theorem Qk0:T.at 169=some km:=by kernel_rfl
theorem QeZ:T.at 170=some kP:=by kernel_rfl
theorem Qhx:T.at 171=some lK:=by kernel_rfl
theorem QaN:T.at 172=some gm:=by kernel_rfl
theorem QaL:T.at 173=some fe:=by kernel_rfl
theorem QlH:T.at 174=some lW:=by kernel_rfl
theorem Qf4:T.at 175=some l5:=by kernel_rfl
theorem rK:T.at 176=some aC:=by kernel_rfl
theorem QaE:T.at 177=some dY:=by kernel_rfl
theorem QfJ:T.at 178=some lG:=by kernel_rfl
theorem QnM:T.at 180=some lw:=by kernel_rfl
theorem QhN:T.at 181=some lr:=by kernel_rfl
theorem QlG:T.at 182=some mF:=by kernel_rfl
theorem Qjz:T.at 183=some lz:=by kernel_rfl
theorem QaD:T.at 184=some fo:=by kernel_rfl
theorem Qhv:T.at 185=some ly:=by kernel_rfl
theorem QeT:T.at 186=some mj:=by kernel_rfl
theorem QnE:T.at 187=some mw:=by kernel_rfl
theorem Qii:T.at 188=some lI:=by kernel_rfl
theorem QlF:T.at 189=some jx:=by kernel_rfl
theorem Qe7:T.at 190=some kY:=by kernel_rfl
theorem Qkd:T.at 191=some lh:=by kernel_rfl
theorem SL:T.at 192=some Ld:=by kernel_rfl
theorem Qnd:T.at 193=some jZ:=by kernel_rfl
theorem Qg6:T.at 194=some lX:=by kernel_rfl
theorem Qmg:T.at 195=some mM:=by kernel_rfl
theorem Qaw:T.at 196=some fh:=by kernel_rfl
theorem Qff:T.at 197=some jt:=by kernel_rfl
theorem zt:T.at 198=some gj:=by kernel_rfl
theorem Qkt:T.at 199=some mO:=by kernel_rfl
theorem Qnm:T.at 200=some jN:=by kernel_rfl
theorem tt:T.at 201=some Y8:=by kernel_rfl
theorem Qnl:T.at 202=some jX:=by kernel_rfl
theorem QaP:T.at 203=some gf:=by kernel_rfl
theorem Qae:T.at 204=some fi:=by kernel_rfl
theorem QaC:T.at 205=some cT:=by kernel_rfl
theorem Qax:T.at 206=some cD:=by kernel_rfl
theorem zG:T.at 207=some ej:=by kernel_rfl
theorem Qah:T.at 208=some eG:=by kernel_rfl
theorem zo:T.at 209=some cG:=by kernel_rfl
theorem QaI:T.at 210=some fT:=by kernel_rfl
theorem QiD:T.at 211=some mA:=by kernel_rfl
theorem QjY:T.at 212=some kr:=by kernel_rfl
theorem zk:T.at 213=some ex:=by kernel_rfl
theorem Qas:T.at 214=some ga:=by kernel_rfl
theorem QkD:T.at 215=some li:=by kernel_rfl
theorem zu:T.at 216=some gq:=by kernel_rfl
theorem zJ:T.at 217=some dO:=by kernel_rfl
theorem Qgz:T.at 218=some kq:=by kernel_rfl
theorem QaV:T.at 219=some fM:=by kernel_rfl
theorem Qab:T.at 220=some da:=by kernel_rfl
theorem QfU:T.at 221=some mn:=by kernel_rfl
theorem zY:T.at 222=some eM:=by kernel_rfl
theorem QfE:T.at 223=some mL:=by kernel_rfl
theorem QkB:T.at 224=some md:=by kernel_rfl
theorem uy:T.at 225=some aB:=by kernel_rfl
theorem uh:T.at 226=some YT:=by kernel_rfl
theorem l7:T.at 227=some TY:=by kernel_rfl
theorem Qg4:T.at 228=some lD:=by kernel_rfl
theorem Qaf:T.at 229=some cL:=by kernel_rfl
theorem zH:T.at 230=some eA:=by kernel_rfl
theorem QkM:T.at 231=some kD:=by kernel_rfl
theorem zL:T.at 232=some dm:=by kernel_rfl
theorem y6:T.at 239=some gr:=by kernel_rfl
theorem QgF:T.at 240=some jU:=by kernel_rfl
theorem Qmd:T.at 244=some lS:=by kernel_rfl
theorem QnF:T.at 245=some lj:=by kernel_rfl
theorem y7:T.at 246=some eQ:=by kernel_rfl
theorem Qay:T.at 247=some ek:=by kernel_rfl
theorem sd:T.at 248=some YJ:=by kernel_rfl
theorem Qam:T.at 249=some dB:=by kernel_rfl
theorem kc:T.at 250=some Un:=by kernel_rfl
theorem Qag:T.at 251=some fE:=by kernel_rfl
theorem et:T.at 252=some SB:=by kernel_rfl
theorem Qak:T.at 255=some c7:=by kernel_rfl
theorem Ql7:T.at 256=some kX:=by kernel_rfl
theorem Qie:T.at 257=some lL:=by kernel_rfl
theorem QeM:T.at 258=some k0:=by kernel_rfl
theorem zn:T.at 260=some cV:=by kernel_rfl
theorem Qfk:T.at 261=some mE:=by kernel_rfl
theorem zh:T.at 264=some dC:=by kernel_rfl
theorem Qi7:T.at 265=some ms:=by kernel_rfl
theorem zb:T.at 266=some dr:=by kernel_rfl
theorem QiO:T.at 267=some lf:=by kernel_rfl
theorem QgE:T.at 268=some lO:=by kernel_rfl
theorem Qat:T.at 269=some dw:=by kernel_rfl
theorem Qnq:T.at 270=some jI:=by kernel_rfl
theorem mG:T.at 271=some U2:=by kernel_rfl
theorem Qav:T.at 272=some eB:=by kernel_rfl
theorem Qh9:T.at 273=some mD:=by kernel_rfl
theorem za:T.at 274=some d8:=by kernel_rfl
theorem Qad:T.at 275=some dX:=by kernel_rfl
theorem Qh4:T.at 276=some lu:=by kernel_rfl
theorem QkP:T.at 277=some kZ:=by kernel_rfl
theorem zA:T.at 278=some eV:=by kernel_rfl
theorem zM:T.at 279=some gp:=by kernel_rfl
theorem QeS:T.at 280=some lC:=by kernel_rfl
theorem Ql6:T.at 281=some lB:=by kernel_rfl
theorem y8:T.at 282=some fb:=by kernel_rfl
theorem zq:T.at 283=some fg:=by kernel_rfl
theorem Qly:T.at 284=some jA:=by kernel_rfl
theorem Qji:T.at 288=some mo:=by kernel_rfl
theorem QiM:T.at 289=some jW:=by kernel_rfl
theorem QaW:T.at 294=some cY:=by kernel_rfl
theorem Qhg:T.at 298=some kS:=by kernel_rfl
theorem Qj9:T.at 299=some k7:=by kernel_rfl
theorem Qi0:T.at 300=some kb:=by kernel_rfl
theorem QkC:T.at 301=some kj:=by kernel_rfl
theorem QnI:T.at 302=some jB:=by kernel_rfl
theorem QmL:T.at 303=some mH:=by kernel_rfl
theorem Qg1:T.at 304=some kz:=by kernel_rfl
theorem QeA:T.at 305=some ju:=by kernel_rfl
theorem Qls:T.at 306=some lF:=by kernel_rfl
theorem QaT:T.at 308=some cP:=by kernel_rfl
theorem Qh1:T.at 309=some mQ:=by kernel_rfl
theorem QfZ:T.at 310=some lZ:=by kernel_rfl
theorem Qau:T.at 319=some c6:=by kernel_rfl
theorem kI:T.at 320=some U4:=by kernel_rfl
theorem QjW:T.at 321=some lV:=by kernel_rfl
theorem Qfg:T.at 322=some mI:=by kernel_rfl
theorem tH:T.at 325=some Yz:=by kernel_rfl
theorem tn:T.at 335=some Y5:=by kernel_rfl
end Go.Proofs.YtoilkmgiofimjaaGreatDoor
