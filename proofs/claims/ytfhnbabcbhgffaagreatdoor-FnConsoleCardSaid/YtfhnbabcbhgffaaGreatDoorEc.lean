import Derived.Test.YtfhnbabcbhgffaaGreatDoorEvB
import Derived.Test.YtfhnbabcbhgffaaGreatDoorFn
import Derived.Test.YtfhnbabcbhgffaaGreatDoorProg
import Derived.KernelRfl
set_option maxHeartbeats 4000000
set_option linter.unusedVariables false
set_option linter.unusedSimpArgs false
set_option linter.defProp false
set_option maxRecDepth 100000
namespace Go.Proofs.YtfhnbabcbhgffaaGreatDoor
open Go Go.Proofs Go.Proofs.YtfhnbabcbhgffaaGreatDoor.Am Tryz
def Vn(x:Int):List AV:=[.i .i64 x]
def cp(x:Int):Vn x=[.i .i64 x]:=Qj
instance(x:Int):QD Vn [.i .i64 x] x:=⟨rfl⟩
def qD(xs:List Int):Vc (xs.map Vn)=xs.map Vn:=Dt (λx=>by simp only[cp,Xp,XQ]) xs
def qy(xs:List Int):Va (xs.map Vn)=true:=AR (λx=>by simp only[cp,Jf,AV.clean,Bool.and_self]) xs
def QgF{R:List (List AV)}{xs:List Int}(i:Int)[h:QC Vn R xs]:Q0 R i=Q0 xs i:=by rw[h.eq,bY]
def QfU{R:List (List AV)}{xs:List Int}(i:Int)[h:QC Vn R xs](hi:Q0 xs i=true):VJ R i.toNat=Vn (gt xs i):=by rw[h.eq,bJ xs i hi]
def Hn(x:Int):List AV:=[.i .u8 x]
def jj(x:Int):Hn x=[.i .u8 x]:=Qj
instance(x:Int):QD Hn [.i .u8 x] x:=⟨rfl⟩
def QaJ(xs:List Int):Vc (xs.map Hn)=xs.map Hn:=Dt (λx=>by simp only[jj,Xp,XQ]) xs
def Qa3(xs:List Int):Va (xs.map Hn)=true:=AR (λx=>by simp only[jj,Jf,AV.clean,Bool.and_self]) xs
def Qjn{R:List (List AV)}{xs:List Int}(i:Int)[h:QC Hn R xs]:Q0 R i=Q0 xs i:=by rw[h.eq,bY]
def QiA{R:List (List AV)}{xs:List Int}(i:Int)[h:QC Hn R xs](hi:Q0 xs i=true):VJ R i.toNat=Hn (gt xs i):=by rw[h.eq,bJ xs i hi]
def pb(x:Bool):List AV:=[.b x]
def vX(x:Bool):pb x=[.b x]:=Qj
instance(x:Bool):QD pb [.b x] x:=⟨rfl⟩
def Qop(xs:List Bool):Vc (xs.map pb)=xs.map pb:=Dt (λx=>by simp only[vX,Xp,XQ]) xs
def Qq7(xs:List Bool):Va (xs.map pb)=true:=AR (λx=>by simp only[vX,Jf,AV.clean,Bool.and_self]) xs
def QqS{R:List (List AV)}{xs:List Bool}(i:Int)[h:QC pb R xs]:Q0 R i=Q0 xs i:=by rw[h.eq,bY]
def Qph{R:List (List AV)}{xs:List Bool}(i:Int)[h:QC pb R xs](hi:Q0 xs i=true):VJ R i.toNat=pb (gt xs i):=by rw[h.eq,bJ xs i hi]
def IW(x:List UInt8):List AV:=[.s x]
def fi(x:List UInt8):IW x=[.s x]:=Qj
instance(x:List UInt8):QD IW [.s x] x:=⟨rfl⟩
def QqM(xs:List (List UInt8)):Vc (xs.map IW)=xs.map IW:=Dt (λx=>by simp only[fi,Xp,XQ]) xs
def Qr9(xs:List (List UInt8)):Va (xs.map IW)=true:=AR (λx=>by simp only[fi,Jf,AV.clean,Bool.and_self]) xs
def QqU{R:List (List AV)}{xs:List (List UInt8)}(i:Int)[h:QC IW R xs]:Q0 R i=Q0 xs i:=by rw[h.eq,bY]
def Qol{R:List (List AV)}{xs:List (List UInt8)}(i:Int)[h:QC IW R xs](hi:Q0 xs i=true):VJ R i.toNat=IW (gt xs i):=by rw[h.eq,bJ xs i hi]
def XO(x:l1Cur):List AV:=[.imm 1 (x.b.map Hn),.i .i64 x.i,.i .i64 x.h]
def fX(x:l1Cur):XO x=[.imm 1 (x.b.map Hn),.i .i64 x.i,.i .i64 x.h]:=Qj
instance(yxi yxh){R1 yxb}[H1:QC Hn R1 yxb]:QD XO [.imm 1 R1,.i .i64 yxi,.i .i64 yxh] (⟨yxb,yxi,yxh⟩:l1Cur):=⟨by obtain⟨rfl⟩:=H1;rfl⟩
def UY(x:l1Cur):List AV:=[.own 1 (x.b.map Hn),.i .i64 x.i,.i .i64 x.h]
def SQ(x:l1Cur):UY x=[.own 1 (x.b.map Hn),.i .i64 x.i,.i .i64 x.h]:=Qj
instance(yxi yxh){R1 yxb}[H1:QC Hn R1 yxb]:QD UY [.own 1 R1,.i .i64 yxi,.i .i64 yxh] (⟨yxb,yxi,yxh⟩:l1Cur):=⟨by obtain⟨rfl⟩:=H1;rfl⟩
def vU(xs:List l1Cur):Vc (xs.map UY)=xs.map XO:=Dt (λx=>by simp only[SQ,fX,Xp,XQ,QaJ]) xs
def uJ(xs:List l1Cur):Va (xs.map UY)=true:=AR (λx=>by simp only[SQ,Jf,AV.clean,Bool.and_self,Qa3]) xs
def rq(x:l1Cur):(⟨x.b,x.i,x.h⟩:l1Cur)=x:=Qj
def ET(x:Qo):List AV:=[.i .i64 x.Id,.i .i64 x.Kind,.i .i64 x.Colour,.i .i64 x.Size,.i .i64 x.Worth]
def WY(x:Qo):ET x=[.i .i64 x.Id,.i .i64 x.Kind,.i .i64 x.Colour,.i .i64 x.Size,.i .i64 x.Worth]:=Qj
instance(yxId yxKind yxColour yxSize yxWorth)  : QD ET [.i .i64 yxId,.i .i64 yxKind,.i .i64 yxColour,.i .i64 yxSize,.i .i64 yxWorth] (⟨yxId,yxKind,yxColour,yxSize,yxWorth⟩:Qo):=⟨by rfl⟩
def rB(xs:List Qo):Vc (xs.map ET)=xs.map ET:=Dt (λx=>by simp only[WY,Xp,XQ]) xs
def wb(xs:List Qo):Va (xs.map ET)=true:=AR (λx=>by simp only[WY,Jf,AV.clean,Bool.and_self]) xs
def sR(x:Qo):(⟨x.Id,x.Kind,x.Colour,x.Size,x.Worth⟩:Qo)=x:=Qj
def Vx(x:QB):List AV:=[.i .i64 x.Qo.Id,.i .i64 x.Qo.Kind,.i .i64 x.Qo.Colour,.i .i64 x.Qo.Size,.i .i64 x.Qo.Worth,.i .i64 x.Place,.i .i64 x.At,.i .i64 x.Qz]
def co(x:QB):Vx x=[.i .i64 x.Qo.Id,.i .i64 x.Qo.Kind,.i .i64 x.Qo.Colour,.i .i64 x.Qo.Size,.i .i64 x.Qo.Worth,.i .i64 x.Place,.i .i64 x.At,.i .i64 x.Qz]:=Qj
instance(yxThingxId yxThingxKind yxThingxColour yxThingxSize yxThingxWorth yxPlace yxAt yxFinder)  : QD Vx [.i .i64 yxThingxId,.i .i64 yxThingxKind,.i .i64 yxThingxColour,.i .i64 yxThingxSize,.i .i64 yxThingxWorth,.i .i64 yxPlace,.i .i64 yxAt,.i .i64 yxFinder] (⟨⟨yxThingxId,yxThingxKind,yxThingxColour,yxThingxSize,yxThingxWorth⟩,yxPlace,yxAt,yxFinder⟩:QB):=⟨by rfl⟩
def mQ(xs:List QB):Vc (xs.map Vx)=xs.map Vx:=Dt (λx=>by simp only[co,Xp,XQ]) xs
def UV(xs:List QB):Va (xs.map Vx)=true:=AR (λx=>by simp only[co,Jf,AV.clean,Bool.and_self]) xs
def yf(x:QB):(⟨x.Qo,x.Place,x.At,x.Qz⟩:QB)=x:=Qj
def X6(x:Mark):List AV:=[.i .i64 x.Question,.i .i64 x.Answer]
def cN(x:Mark):X6 x=[.i .i64 x.Question,.i .i64 x.Answer]:=Qj
instance(yxQuestion yxAnswer)  : QD X6 [.i .i64 yxQuestion,.i .i64 yxAnswer] (⟨yxQuestion,yxAnswer⟩:Mark):=⟨by rfl⟩
def lm(xs:List Mark):Vc (xs.map X6)=xs.map X6:=Dt (λx=>by simp only[cN,Xp,XQ]) xs
def lF(xs:List Mark):Va (xs.map X6)=true:=AR (λx=>by simp only[cN,Jf,AV.clean,Bool.and_self]) xs
def yr(x:Mark):(⟨x.Question,x.Answer⟩:Mark)=x:=Qj
def V2(x:Qm):List AV:=[.i .i64 x.Qo,.imm 2 (x.Marks.map X6),.i .i64 x.Salt]
def bG(x:Qm):V2 x=[.i .i64 x.Qo,.imm 2 (x.Marks.map X6),.i .i64 x.Salt]:=Qj
instance(yxThing yxSalt){R1 yxMarks}[H1:QC X6 R1 yxMarks]:QD V2 [.i .i64 yxThing,.imm 2 R1,.i .i64 yxSalt] (⟨yxThing,yxMarks,yxSalt⟩:Qm):=⟨by obtain⟨rfl⟩:=H1;rfl⟩
def Vy(x:Qm):List AV:=[.i .i64 x.Qo,.own 2 (x.Marks.map X6),.i .i64 x.Salt]
def Ps(x:Qm):Vy x=[.i .i64 x.Qo,.own 2 (x.Marks.map X6),.i .i64 x.Salt]:=Qj
instance(yxThing yxSalt){R1 yxMarks}[H1:QC X6 R1 yxMarks]:QD Vy [.i .i64 yxThing,.own 2 R1,.i .i64 yxSalt] (⟨yxThing,yxMarks,yxSalt⟩:Qm):=⟨by obtain⟨rfl⟩:=H1;rfl⟩
def bp(xs:List Qm):Vc (xs.map Vy)=xs.map V2:=Dt (λx=>by simp only[Ps,bG,Xp,XQ,lm]) xs
def NY(xs:List Qm):Va (xs.map Vy)=true:=AR (λx=>by simp only[Ps,Jf,AV.clean,Bool.and_self,lF]) xs
def nC(x:Qm):(⟨x.Qo,x.Marks,x.Salt⟩:Qm)=x:=Qj
def Q1(x:Qu):List AV:=[.i .i64 x.Id,.i .i64 x.QA,.i .i64 x.Qo,.i .i64 x.At,.i .i64 x.State]
def Ym(x:Qu):Q1 x=[.i .i64 x.Id,.i .i64 x.QA,.i .i64 x.Qo,.i .i64 x.At,.i .i64 x.State]:=Qj
instance(yxId yxWho yxThing yxAt yxState)  : QD Q1 [.i .i64 yxId,.i .i64 yxWho,.i .i64 yxThing,.i .i64 yxAt,.i .i64 yxState] (⟨yxId,yxWho,yxThing,yxAt,yxState⟩:Qu):=⟨by rfl⟩
def eR(xs:List Qu):Vc (xs.map Q1)=xs.map Q1:=Dt (λx=>by simp only[Ym,Xp,XQ]) xs
def PP(xs:List Qu):Va (xs.map Q1)=true:=AR (λx=>by simp only[Ym,Jf,AV.clean,Bool.and_self]) xs
def sA(x:Qu):(⟨x.Id,x.QA,x.Qo,x.At,x.State⟩:Qu)=x:=Qj
def VH(x:Qp):List AV:=[.i .i64 x.Qu,.i .i64 x.Asked,.i .i64 x.Right,.i .i64 x.Wrong]
def YO(x:Qp):VH x=[.i .i64 x.Qu,.i .i64 x.Asked,.i .i64 x.Right,.i .i64 x.Wrong]:=Qj
instance(yxClaim yxAsked yxRight yxWrong)  : QD VH [.i .i64 yxClaim,.i .i64 yxAsked,.i .i64 yxRight,.i .i64 yxWrong] (⟨yxClaim,yxAsked,yxRight,yxWrong⟩:Qp):=⟨by rfl⟩
def fh(xs:List Qp):Vc (xs.map VH)=xs.map VH:=Dt (λx=>by simp only[YO,Xp,XQ]) xs
def PJ(xs:List Qp):Va (xs.map VH)=true:=AR (λx=>by simp only[YO,Jf,AV.clean,Bool.and_self]) xs
def ul(x:Qp):(⟨x.Qu,x.Asked,x.Right,x.Wrong⟩:Qp)=x:=Qj
def VL(x:Qr):List AV:=[.i .i64 x.Id,.i .i64 x.Size,.i .i64 x.Qo]
def cw(x:Qr):VL x=[.i .i64 x.Id,.i .i64 x.Size,.i .i64 x.Qo]:=Qj
instance(yxId yxSize yxThing)  : QD VL [.i .i64 yxId,.i .i64 yxSize,.i .i64 yxThing] (⟨yxId,yxSize,yxThing⟩:Qr):=⟨by rfl⟩
def lw(xs:List Qr):Vc (xs.map VL)=xs.map VL:=Dt (λx=>by simp only[cw,Xp,XQ]) xs
def kI(xs:List Qr):Va (xs.map VL)=true:=AR (λx=>by simp only[cw,Jf,AV.clean,Bool.and_self]) xs
def yR(x:Qr):(⟨x.Id,x.Size,x.Qo⟩:Qr)=x:=Qj
def V0(x:Hand):List AV:=[.i .i64 x.Qo,.i .i64 x.Qx,.i .i64 x.QA,.i .i64 x.At,.i .i64 x.Seal]
def c9(x:Hand):V0 x=[.i .i64 x.Qo,.i .i64 x.Qx,.i .i64 x.QA,.i .i64 x.At,.i .i64 x.Seal]:=Qj
instance(yxThing yxHolder yxWho yxAt yxSeal)  : QD V0 [.i .i64 yxThing,.i .i64 yxHolder,.i .i64 yxWho,.i .i64 yxAt,.i .i64 yxSeal] (⟨yxThing,yxHolder,yxWho,yxAt,yxSeal⟩:Hand):=⟨by rfl⟩
def kv(xs:List Hand):Vc (xs.map V0)=xs.map V0:=Dt (λx=>by simp only[c9,Xp,XQ]) xs
def lV(xs:List Hand):Va (xs.map V0)=true:=AR (λx=>by simp only[c9,Jf,AV.clean,Bool.and_self]) xs
def zj(x:Hand):(⟨x.Qo,x.Qx,x.QA,x.At,x.Seal⟩:Hand)=x:=Qj
def VX(x:Entry):List AV:=[.i .i64 x.From,.i .i64 x.To,.i .i64 x.Qy,.i .i64 x.At]
def Wq(x:Entry):VX x=[.i .i64 x.From,.i .i64 x.To,.i .i64 x.Qy,.i .i64 x.At]:=Qj
instance(yxFrom yxTo yxCents yxAt)  : QD VX [.i .i64 yxFrom,.i .i64 yxTo,.i .i64 yxCents,.i .i64 yxAt] (⟨yxFrom,yxTo,yxCents,yxAt⟩:Entry):=⟨by rfl⟩
def gC(xs:List Entry):Vc (xs.map VX)=xs.map VX:=Dt (λx=>by simp only[Wq,Xp,XQ]) xs
def fW(xs:List Entry):Va (xs.map VX)=true:=AR (λx=>by simp only[Wq,Jf,AV.clean,Bool.and_self]) xs
def vj(x:Entry):(⟨x.From,x.To,x.Qy,x.At⟩:Entry)=x:=Qj
def Vo(x:Ql):List AV:=[.i .i64 x.No,.imm 8 (x.Qt.map Vx),.imm 3 (x.Qn.map V2),.imm 3 (x.Qs.map VL),.imm 5 (x.Qv.map Q1),.imm 4 (x.Qq.map VH),.imm 5 (x.Qw.map V0),.imm 4 (x.Book.map VX),.i .i64 x.Now]
def gp(x:Ql):Vo x=[.i .i64 x.No,.imm 8 (x.Qt.map Vx),.imm 3 (x.Qn.map V2),.imm 3 (x.Qs.map VL),.imm 5 (x.Qv.map Q1),.imm 4 (x.Qq.map VH),.imm 5 (x.Qw.map V0),.imm 4 (x.Book.map VX),.i .i64 x.Now]:=Qj
instance(yxNo yxNow){R1 yxFinds R2 yxSecrets R3 yxSlots R4 yxClaims R5 yxTrials R6 yxChain R7 yxBook}[H1:QC Vx R1 yxFinds][H2:QC V2 R2 yxSecrets][H3:QC VL R3 yxSlots][H4:QC Q1 R4 yxClaims][H5:QC VH R5 yxTrials][H6:QC V0 R6 yxChain][H7:QC VX R7 yxBook]:QD Vo [.i .i64 yxNo,.imm 8 R1,.imm 3 R2,.imm 3 R3,.imm 5 R4,.imm 4 R5,.imm 5 R6,.imm 4 R7,.i .i64 yxNow] (⟨yxNo,yxFinds,yxSecrets,yxSlots,yxClaims,yxTrials,yxChain,yxBook,yxNow⟩:Ql):=⟨by obtain⟨rfl⟩:=H1;obtain⟨rfl⟩:=H2;obtain⟨rfl⟩:=H3;obtain⟨rfl⟩:=H4;obtain⟨rfl⟩:=H5;obtain⟨rfl⟩:=H6;obtain⟨rfl⟩:=H7;rfl⟩
def X4(x:Ql):List AV:=[.i .i64 x.No,.own 8 (x.Qt.map Vx),.own 3 (x.Qn.map Vy),.own 3 (x.Qs.map VL),.own 5 (x.Qv.map Q1),.own 4 (x.Qq.map VH),.own 5 (x.Qw.map V0),.own 4 (x.Book.map VX),.i .i64 x.Now]
def SL(x:Ql):X4 x=[.i .i64 x.No,.own 8 (x.Qt.map Vx),.own 3 (x.Qn.map Vy),.own 3 (x.Qs.map VL),.own 5 (x.Qv.map Q1),.own 4 (x.Qq.map VH),.own 5 (x.Qw.map V0),.own 4 (x.Book.map VX),.i .i64 x.Now]:=Qj
instance(yxNo yxNow){R1 yxFinds R2 yxSecrets R3 yxSlots R4 yxClaims R5 yxTrials R6 yxChain R7 yxBook}[H1:QC Vx R1 yxFinds][H2:QC Vy R2 yxSecrets][H3:QC VL R3 yxSlots][H4:QC Q1 R4 yxClaims][H5:QC VH R5 yxTrials][H6:QC V0 R6 yxChain][H7:QC VX R7 yxBook]:QD X4 [.i .i64 yxNo,.own 8 R1,.own 3 R2,.own 3 R3,.own 5 R4,.own 4 R5,.own 5 R6,.own 4 R7,.i .i64 yxNow] (⟨yxNo,yxFinds,yxSecrets,yxSlots,yxClaims,yxTrials,yxChain,yxBook,yxNow⟩:Ql):=⟨by obtain⟨rfl⟩:=H1;obtain⟨rfl⟩:=H2;obtain⟨rfl⟩:=H3;obtain⟨rfl⟩:=H4;obtain⟨rfl⟩:=H5;obtain⟨rfl⟩:=H6;obtain⟨rfl⟩:=H7;rfl⟩
def v6(xs:List Ql):Vc (xs.map X4)=xs.map Vo:=Dt (λx=>by simp only[SL,gp,Xp,XQ,eR,gC,mQ,kv,bp,lw,fh]) xs
def td(xs:List Ql):Va (xs.map X4)=true:=AR (λx=>by simp only[SL,Jf,AV.clean,Bool.and_self,PP,fW,UV,lV,NY,kI,PJ]) xs
def ue(x:Ql):(⟨x.No,x.Qt,x.Qn,x.Qs,x.Qv,x.Qq,x.Qw,x.Book,x.Now⟩:Ql)=x:=Qj
def bZ(x:Span):List AV:=[.i .i64 x.From,.i .i64 x.Until]
def cr(x:Span):bZ x=[.i .i64 x.From,.i .i64 x.Until]:=Qj
instance(yxFrom yxUntil)  : QD bZ [.i .i64 yxFrom,.i .i64 yxUntil] (⟨yxFrom,yxUntil⟩:Span):=⟨by rfl⟩
def wX(xs:List Span):Vc (xs.map bZ)=xs.map bZ:=Dt (λx=>by simp only[cr,Xp,XQ]) xs
def xj(xs:List Span):Va (xs.map bZ)=true:=AR (λx=>by simp only[cr,Jf,AV.clean,Bool.and_self]) xs
def xv(x:Span):(⟨x.From,x.Until⟩:Span)=x:=Qj
def Ik(x:Report):List AV:=[.i .i64 x.Id,.i .i64 x.Kind,.imm 1 (x.Colours.map Vn),.i .i64 x.SizeLow,.i .i64 x.SizeHigh,.imm 1 (x.Places.map Vn),.i .i64 x.Span.From,.i .i64 x.Span.Until]
def bm(x:Report):Ik x=[.i .i64 x.Id,.i .i64 x.Kind,.imm 1 (x.Colours.map Vn),.i .i64 x.SizeLow,.i .i64 x.SizeHigh,.imm 1 (x.Places.map Vn),.i .i64 x.Span.From,.i .i64 x.Span.Until]:=Qj
instance(yxId yxKind yxSizeLow yxSizeHigh yxSpanxFrom yxSpanxUntil){R1 yxColours R2 yxPlaces}[H1:QC Vn R1 yxColours][H2:QC Vn R2 yxPlaces]:QD Ik [.i .i64 yxId,.i .i64 yxKind,.imm 1 R1,.i .i64 yxSizeLow,.i .i64 yxSizeHigh,.imm 1 R2,.i .i64 yxSpanxFrom,.i .i64 yxSpanxUntil] (⟨yxId,yxKind,yxColours,yxSizeLow,yxSizeHigh,yxPlaces,⟨yxSpanxFrom,yxSpanxUntil⟩⟩:Report):=⟨by obtain⟨rfl⟩:=H1;obtain⟨rfl⟩:=H2;rfl⟩
def Ni(x:Report):List AV:=[.i .i64 x.Id,.i .i64 x.Kind,.own 1 (x.Colours.map Vn),.i .i64 x.SizeLow,.i .i64 x.SizeHigh,.own 1 (x.Places.map Vn),.i .i64 x.Span.From,.i .i64 x.Span.Until]
def OY(x:Report):Ni x=[.i .i64 x.Id,.i .i64 x.Kind,.own 1 (x.Colours.map Vn),.i .i64 x.SizeLow,.i .i64 x.SizeHigh,.own 1 (x.Places.map Vn),.i .i64 x.Span.From,.i .i64 x.Span.Until]:=Qj
instance(yxId yxKind yxSizeLow yxSizeHigh yxSpanxFrom yxSpanxUntil){R1 yxColours R2 yxPlaces}[H1:QC Vn R1 yxColours][H2:QC Vn R2 yxPlaces]:QD Ni [.i .i64 yxId,.i .i64 yxKind,.own 1 R1,.i .i64 yxSizeLow,.i .i64 yxSizeHigh,.own 1 R2,.i .i64 yxSpanxFrom,.i .i64 yxSpanxUntil] (⟨yxId,yxKind,yxColours,yxSizeLow,yxSizeHigh,yxPlaces,⟨yxSpanxFrom,yxSpanxUntil⟩⟩:Report):=⟨by obtain⟨rfl⟩:=H1;obtain⟨rfl⟩:=H2;rfl⟩
def oP(xs:List Report):Vc (xs.map Ni)=xs.map Ik:=Dt (λx=>by simp only[OY,bm,Xp,XQ,qD]) xs
def po(xs:List Report):Va (xs.map Ni)=true:=AR (λx=>by simp only[OY,Jf,AV.clean,Bool.and_self,qy]) xs
def nO(x:Report):(⟨x.Id,x.Kind,x.Colours,x.SizeLow,x.SizeHigh,x.Places,x.Span⟩:Report)=x:=Qj
def CW(x:Bid):List AV:=[.i .i64 x.QA,.i .i64 x.Qy,.i .i64 x.Seal]
def i7(x:Bid):CW x=[.i .i64 x.QA,.i .i64 x.Qy,.i .i64 x.Seal]:=Qj
instance(yxWho yxCents yxSeal)  : QD CW [.i .i64 yxWho,.i .i64 yxCents,.i .i64 yxSeal] (⟨yxWho,yxCents,yxSeal⟩:Bid):=⟨by rfl⟩
def QfP(xs:List Bid):Vc (xs.map CW)=xs.map CW:=Dt (λx=>by simp only[i7,Xp,XQ]) xs
def QdT(xs:List Bid):Va (xs.map CW)=true:=AR (λx=>by simp only[i7,Jf,AV.clean,Bool.and_self]) xs
def QdZ(x:Bid):(⟨x.QA,x.Qy,x.Seal⟩:Bid)=x:=Qj
def Tf(x:Share):List AV:=[.i .i64 x.QA,.i .i64 x.Qy]
def YS(x:Share):Tf x=[.i .i64 x.QA,.i .i64 x.Qy]:=Qj
instance(yxWho yxCents)  : QD Tf [.i .i64 yxWho,.i .i64 yxCents] (⟨yxWho,yxCents⟩:Share):=⟨by rfl⟩
def u9(xs:List Share):Vc (xs.map Tf)=xs.map Tf:=Dt (λx=>by simp only[YS,Xp,XQ]) xs
def vR(xs:List Share):Va (xs.map Tf)=true:=AR (λx=>by simp only[YS,Jf,AV.clean,Bool.and_self]) xs
def ri(x:Share):(⟨x.QA,x.Qy⟩:Share)=x:=Qj
def KJ(x:List Int):List AV:=[.imm 1 (x.map Vn)]
def rA(x:List Int):KJ x=[.imm 1 (x.map Vn)]:=Qj
instance{R}{x:List Int}[H:QC Vn R x]:QD KJ [.imm 1 R] x:=⟨by obtain⟨rfl⟩:=H;rfl⟩
def np{R:List (List AV)}{xs:List (List Int)}(i:Int)[h:QC KJ R xs]:Q0 R i=Q0 xs i:=by rw[h.eq,bY]
def mY{R:List (List AV)}{xs:List (List Int)}(i:Int)[h:QC KJ R xs](hi:Q0 xs i=true):VJ R i.toNat=KJ (gt xs i):=by rw[h.eq,bJ xs i hi]
def Qmx:=Qk @cp @qD @qy @QgF @QfU @jj<|Qk @QaJ @Qa3 @Qjn @QiA @vX @Qop<|Qk @Qq7 @QqS @Qph @fi @QqM @Qr9<|Qk @QqU @Qol @fX @vU @uJ @rq<|Qk @SQ @WY @rB @wb @sR @co<|Qk @mQ @UV @yf @cN @lm @lF<|Qk @yr @bG @bp @NY @nC @Ps<|Qk @Ym @eR @PP @sA @YO @fh<|Qk @PJ @ul @cw @lw @kI @yR<|Qk @c9 @kv @lV @zj @Wq @gC<|Qk @fW @vj @gp @v6 @td @ue<|Qk @SL @cr @wX @xj @xv @bm<|Qk @oP @po @nO @OY @i7 @QfP<|Qk @QdT @QdZ @YS @u9 @vR @ri<|Qk @o9 @nG @nB @jt @iA @ov<|aI @jL<|aI @rA<|aI @np @mY
def tys:bsl prog 5=false∧Kt prog 132=true∧Kt prog 136=true∧Kt prog 24=true∧Kt prog 26=true∧Kt prog 27=true∧Kt prog 28=true∧Kt prog 29=true∧Kt prog 30=true∧Is prog 132=[0,0]∧Is prog 136=[0,0,0]∧Is prog 194=[0,0]∧Is prog 235=[0]∧Is prog 24=[0,0,0,0,0,0,0,0]∧Is prog 25=[0,2,0]∧Is prog 26=[0,0,0]∧Is prog 27=[0,0,0,0,0]∧Is prog 28=[0,0,0,0]∧Is prog 29=[0,0,0,0,0]∧Is prog 30=[0,0,0,0]∧Is prog 306=[1]∧Is prog 37=[0]∧Is prog 51=[0]∧tb prog 131=some 16∧tb prog 135=some 24∧tb prog 152=some 40∧tb prog 3=some 8∧tb prog 70=some 64∧tb prog 74=some 24∧tb prog 77=some 40∧tb prog 80=some 32∧tb prog 83=some 40∧tb prog 86=some 32∧tb prog 9=some 16∧UX prog 131=.st [.i .i64 0,.i .i64 0] [(0,1),(1,1)]∧UX prog 135=.st [.i .i64 0,.i .i64 0,.i .i64 0] [(0,1),(1,1),(2,1)]∧UX prog 152=.st [.i .i64 0,.nil,.i .i64 0] [(0,1),(1,1),(2,1)]∧UX prog 197=.st [.i .i64 0,.i .i64 0] [(0,1),(1,1)]∧UX prog 204=.arr [.s [],.s [],.s [],.s [],.s [],.s []] 1∧UX prog 224=.arr [.s [],.s [],.s [],.s [],.s [],.s [],.s [],.s []] 1∧UX prog 246=.arr [.s [],.s [],.s [],.s [],.s []] 1∧UX prog 32=.st [.i .i64 0,.nil,.nil,.nil,.nil,.nil,.nil,.nil,.i .i64 0] [(0,1),(1,1),(2,1),(3,1),(4,1),(5,1),(6,1),(7,1),(8,1)]∧UX prog 53=.st [.i .i64 0,.i .i64 0] [(0,1),(1,1)]∧UX prog 55=.st [.i .i64 0,.i .i64 0,.nil,.i .i64 0,.i .i64 0,.nil,.i .i64 0,.i .i64 0] [(0,1),(1,1),(2,1),(3,1),(4,1),(5,1),(6,2)]∧UX prog 68=.st [.i .i64 0,.i .i64 0,.i .i64 0,.i .i64 0,.i .i64 0] [(0,1),(1,1),(2,1),(3,1),(4,1)]∧UX prog 70=.st [.i .i64 0,.i .i64 0,.i .i64 0,.i .i64 0,.i .i64 0,.i .i64 0,.i .i64 0,.i .i64 0] [(0,5),(5,1),(6,1),(7,1)]∧UX prog 74=.st [.i .i64 0,.i .i64 0,.i .i64 0] [(0,1),(1,1),(2,1)]∧UX prog 77=.st [.i .i64 0,.i .i64 0,.i .i64 0,.i .i64 0,.i .i64 0] [(0,1),(1,1),(2,1),(3,1),(4,1)]∧UX prog 80=.st [.i .i64 0,.i .i64 0,.i .i64 0,.i .i64 0] [(0,1),(1,1),(2,1),(3,1)]∧UX prog 83=.st [.i .i64 0,.i .i64 0,.i .i64 0,.i .i64 0,.i .i64 0] [(0,1),(1,1),(2,1),(3,1),(4,1)]∧UX prog 86=.st [.i .i64 0,.i .i64 0,.i .i64 0,.i .i64 0] [(0,1),(1,1),(2,1),(3,1)]∧UX prog 91=.st [.nil,.i .i64 0,.i .i64 0] [(0,1),(1,1),(2,1)]∧L5 prog 131=some [.i,.i]∧L5 prog 4=some [.t]∧L5 prog 70=some [.i,.i,.i,.i,.i,.i,.i,.i]∧L5 prog 74=some [.i,.i,.i]∧L5 prog 77=some [.i,.i,.i,.i,.i]∧L5 prog 80=some [.i,.i,.i,.i]∧L5 prog 83=some [.i,.i,.i,.i,.i]∧L5 prog 86=some [.i,.i,.i,.i]∧E7 prog 131 0=some (0,.one)∧E7 prog 131 1=some (1,.one)∧E7 prog 135 0=some (0,.one)∧E7 prog 135 1=some (1,.one)∧E7 prog 152 0=some (0,.one)∧E7 prog 152 1=some (1,.one)∧E7 prog 152 2=some (2,.one)∧E7 prog 197 1=some (1,.one)∧E7 prog 32 0=some (0,.one)∧E7 prog 32 1=some (1,.one)∧E7 prog 32 2=some (2,.one)∧E7 prog 32 3=some (3,.one)∧E7 prog 32 4=some (4,.one)∧E7 prog 32 5=some (5,.one)∧E7 prog 32 6=some (6,.one)∧E7 prog 32 7=some (7,.one)∧E7 prog 32 8=some (8,.one)∧E7 prog 53 0=some (0,.one)∧E7 prog 53 1=some (1,.one)∧E7 prog 55 0=some (0,.one)∧E7 prog 55 1=some (1,.one)∧E7 prog 55 2=some (2,.one)∧E7 prog 55 3=some (3,.one)∧E7 prog 55 4=some (4,.one)∧E7 prog 55 5=some (5,.one)∧E7 prog 55 6=some (6,.agg 2)∧E7 prog 68 0=some (0,.one)∧E7 prog 68 1=some (1,.one)∧E7 prog 68 2=some (2,.one)∧E7 prog 68 3=some (3,.one)∧E7 prog 68 4=some (4,.one)∧E7 prog 70 0=some (0,.agg 5)∧E7 prog 70 1=some (5,.one)∧E7 prog 70 2=some (6,.one)∧E7 prog 70 3=some (7,.one)∧E7 prog 74 0=some (0,.one)∧E7 prog 74 1=some (1,.one)∧E7 prog 74 2=some (2,.one)∧E7 prog 77 0=some (0,.one)∧E7 prog 77 1=some (1,.one)∧E7 prog 77 2=some (2,.one)∧E7 prog 77 3=some (3,.one)∧E7 prog 77 4=some (4,.one)∧E7 prog 80 0=some (0,.one)∧E7 prog 80 1=some (1,.one)∧E7 prog 80 2=some (2,.one)∧E7 prog 80 3=some (3,.one)∧E7 prog 83 0=some (0,.one)∧E7 prog 83 1=some (1,.one)∧E7 prog 83 2=some (2,.one)∧E7 prog 83 3=some (3,.one)∧E7 prog 83 4=some (4,.one)∧E7 prog 86 0=some (0,.one)∧E7 prog 86 1=some (1,.one)∧E7 prog 86 2=some (2,.one)∧E7 prog 86 3=some (3,.one)∧E7 prog 91 0=some (0,.one)∧E7 prog 91 1=some (1,.one)∧E7 prog 91 2=some (2,.one)∧ti prog 132=.sl 131 2∧ti prog 136=.sl 135 3∧ti prog 194=.sl 197 2∧ti prog 204=.arr 6 9 1∧ti prog 22=.sl 5 1∧ti prog 224=.arr 8 9 1∧ti prog 235=.sl 4 1∧ti prog 24=.sl 70 8∧ti prog 246=.arr 5 9 1∧ti prog 25=.sl 152 3∧ti prog 26=.sl 74 3∧ti prog 27=.sl 77 5∧ti prog 28=.sl 80 4∧ti prog 29=.sl 83 5∧ti prog 3=.int .i64∧ti prog 30=.sl 86 4∧ti prog 306=.sl 51 1∧ti prog 37=.sl 9 1∧ti prog 51=.sl 3 1∧ti prog 9=.str∧tk prog 131=.agg 2∧tk prog 132=.one∧tk prog 135=.agg 3∧tk prog 152=.agg 3∧tk prog 204=.agg 6∧tk prog 22=.one∧tk prog 224=.agg 8∧tk prog 24=.one∧tk prog 246=.agg 5∧tk prog 25=.one∧tk prog 26=.one∧tk prog 27=.one∧tk prog 28=.one∧tk prog 29=.one∧tk prog 3=.one∧tk prog 30=.one∧tk prog 32=.agg 9∧tk prog 4=.one∧tk prog 5=.one∧tk prog 51=.one∧tk prog 53=.agg 2∧tk prog 55=.agg 8∧tk prog 68=.agg 5∧tk prog 70=.agg 8∧tk prog 74=.agg 3∧tk prog 77=.agg 5∧tk prog 80=.agg 4∧tk prog 83=.agg 5∧tk prog 86=.agg 4∧tk prog 9=.one∧Et prog 132=true∧Et prog 136=true∧Et prog 24=true∧Et prog 25=true∧Et prog 26=true∧Et prog 27=true∧Et prog 28=true∧Et prog 29=true∧Et prog 30=true∧Et prog 37=true∧Et prog 51=true∧tok prog 5=true∧Lr prog 132=some (131,2,[.i .i64 0,.i .i64 0])∧Lr prog 136=some (135,3,[.i .i64 0,.i .i64 0,.i .i64 0])∧Lr prog 194=some (197,2,[.i .i64 0,.i .i64 0])∧Lr prog 235=some (4,1,[.b false])∧Lr prog 24=some (70,8,[.i .i64 0,.i .i64 0,.i .i64 0,.i .i64 0,.i .i64 0,.i .i64 0,.i .i64 0,.i .i64 0])∧Lr prog 25=some (152,3,[.i .i64 0,.nil,.i .i64 0])∧Lr prog 26=some (74,3,[.i .i64 0,.i .i64 0,.i .i64 0])∧Lr prog 27=some (77,5,[.i .i64 0,.i .i64 0,.i .i64 0,.i .i64 0,.i .i64 0])∧Lr prog 28=some (80,4,[.i .i64 0,.i .i64 0,.i .i64 0,.i .i64 0])∧Lr prog 29=some (83,5,[.i .i64 0,.i .i64 0,.i .i64 0,.i .i64 0,.i .i64 0])∧Lr prog 30=some (86,4,[.i .i64 0,.i .i64 0,.i .i64 0,.i .i64 0])∧Lr prog 306=some (51,1,[.nil])∧Lr prog 37=some (9,1,[.s []])∧Lr prog 51=some (3,1,[.i .i64 0])∧Uw prog 131=some [.i .i64 0,.i .i64 0]∧Uw prog 135=some [.i .i64 0,.i .i64 0,.i .i64 0]∧Uw prog 152=some [.i .i64 0,.nil,.i .i64 0]∧Uw prog 204=some [.s [],.s [],.s [],.s [],.s [],.s []]∧Uw prog 224=some [.s [],.s [],.s [],.s [],.s [],.s [],.s [],.s []]∧Uw prog 246=some [.s [],.s [],.s [],.s [],.s []]∧Uw prog 32=some [.i .i64 0,.nil,.nil,.nil,.nil,.nil,.nil,.nil,.i .i64 0]∧Uw prog 55=some [.i .i64 0,.i .i64 0,.nil,.i .i64 0,.i .i64 0,.nil,.i .i64 0,.i .i64 0]∧Uw prog 68=some [.i .i64 0,.i .i64 0,.i .i64 0,.i .i64 0,.i .i64 0]∧Uw prog 70=some [.i .i64 0,.i .i64 0,.i .i64 0,.i .i64 0,.i .i64 0,.i .i64 0,.i .i64 0,.i .i64 0]∧Uw prog 74=some [.i .i64 0,.i .i64 0,.i .i64 0]∧Uw prog 77=some [.i .i64 0,.i .i64 0,.i .i64 0,.i .i64 0,.i .i64 0]∧Uw prog 80=some [.i .i64 0,.i .i64 0,.i .i64 0,.i .i64 0]∧Uw prog 83=some [.i .i64 0,.i .i64 0,.i .i64 0,.i .i64 0,.i .i64 0]∧Uw prog 86=some [.i .i64 0,.i .i64 0,.i .i64 0,.i .i64 0]:=by and_intros<;>kernel_rfl
def Pj:List (List AV)→Option (List (List UInt8))
 |[]=>some []
 |[.s x]::r=>(Pj r).map (x::·)
 |_=>none
def W4:∀l:List (List UInt8),Pj (l.map IW)=some l
 |[]=>rfl
 |x::l=>by rw[List.map_cons,fi,Pj,W4 l];rfl
def xt(g:Nat)(args:List AV):Option AV:=match args with
 |[.nil,.i .i64 x]=>if g=316 then(BN x).map λr=>.own 1 (r.map Vn)else none
 |[.imm 1 R,.s s]=>if g=20 then(Pj R).bind λl=>(strings_Join l s).map .s else none
 |[.s s,.s t]=>if g=16 then(strings_Split s t).map λr=>.own 1 (r.map IW)else if g=122 then(strings_Cut s t).map λr=>.tup [.s r.1,.s r.2.1,.b r.2.2]else none
 |[.i .i64 x]=>if g=129 then(strconv_Itoa x).map .s else none
 |_=>none
def mt(g:Nat)(K:KS)(args:List AV):Option AV:=mtI [(139,(4,32)),(212,(8,64)),(213,(3,40)),(218,(5,40))] g K args
def An3:Ann:={ jn:=[(5,(40,29,40)),(24,(2,80,100))],lp:=[(8,⟨[0,5,41,42,43],[.s 5 0,.c 0 1 8,.c 0 2 3,.c 0 3 3,.c 0 4 5,.c 0 5 4,.c 0 6 5,.c 0 7 4,.s 41 1],[0],[]⟩),(20,⟨[11,12,13,14,15],[.s 12 1],[12,13,14],[.s 12 1]⟩)],rt:=⟨[2],[],[],[]⟩ }
def An4:Ann:={}
def An5:Ann:={ ot:=[(5,.one 1 (.alt (.one 0 (.one 2 (.one 3 (.one 4 (.done))))) (.one 2 (.one 0 (.one 3 (.one 4 (.done)))))))],av:=[(1,[12]),(2,[13]),(3,[14]),(5,[15])],sh:=[.a [0,8,3,3,5,4,5,4,0],.n] }
def An6:Ann:={ ord:=[(14,[0,2,3,4,1,5,6,7,8]),(20,[0,2,3,4,5,6,1,7,8,9])],ot:=[(18,.one 0 (.one 1 (.one 2 (.one 3 (.one 4 (.alt (.one 5 (.one 6 (.one 7 (.one 8 (.one 9 (.one 10 (.one 11 (.one 12 (.one 13 (.done)))))))))) (.one 10 (.one 5 (.one 6 (.one 7 (.one 8 (.one 9 (.one 11 (.one 12 (.one 13 (.done))))))))))))))))],fz:=[(11,[6])],jn:=[(8,(48,31,48))],lp:=[(3,⟨[1,2,4,6,18,19,20],[.s 2 0,.s 4 0,.s 6 1,.s 18 1],[1,2,4,6],[.s 2 0,.s 4 0,.s 6 1]⟩)],sh:=[.a [0,8,3,3,5,4,5,4,0],.n] }
def An7:Ann:={ jn:=[(1,(4,5,66))] }
def An8:Ann:={ jn:=[(6,(54,15,54))],lp:=[(4,⟨[0,8,9,10],[],[],[]⟩)],rt:=⟨[2],[],[],[]⟩ }
def An9:Ann:={ sh:=[.z 3] }
def tq:Ann:={ av:=[(1,[12]),(3,[14]),(9,[14]),(11,[35]),(14,[15])],lp:=[(5,⟨[4,5],[],[4],[]⟩),(12,⟨[3,4,6],[.s 3 0],[4],[]⟩)] }
def ww:Ann:={ fz:=[(2,[4])],lp:=[(8,⟨[5,6,29,30,31],[.s 5 0,.c 0 1 8,.c 0 2 3,.c 0 3 3,.c 0 4 5,.c 0 5 4,.c 0 6 5,.c 0 7 4,.s 6 1],[6],[.s 6 1]⟩)],sh:=[.z 1,.n] }
def yQ:Ann:={ nr:=some [.s 32 0],jn:=[(3,(15,8,15))],lp:=[(3,⟨[0,3,4],[],[0,3],[]⟩)] }
def pE:Ann:={ ot:=[(18,.one 1 (.one 2 (.one 5 (.alt (.one 0 (.one 3 (.one 4 (.one 6 (.one 7 (.one 8 (.one 9 (.one 10 (.one 11 (.one 12 (.one 13 (.done)))))))))))) (.one 3 (.one 4 (.alt (.one 0 (.one 6 (.one 7 (.one 8 (.one 9 (.one 10 (.one 11 (.one 12 (.one 13 (.done)))))))))) (.one 6 (.one 0 (.one 7 (.one 8 (.one 9 (.one 10 (.one 11 (.one 12 (.one 13 (.done))))))))))))))))),(20,.one 1 (.alt (.one 0 (.one 2 (.one 3 (.one 4 (.one 5 (.one 6 (.one 7 (.one 8 (.done))))))))) (.one 2 (.alt (.one 0 (.one 3 (.one 4 (.one 5 (.one 6 (.one 7 (.one 8 (.done)))))))) (.one 3 (.one 0 (.one 4 (.one 5 (.one 6 (.one 7 (.one 8 (.done)))))))))))),(22,.one 1 (.alt (.one 0 (.one 2 (.one 3 (.one 4 (.one 5 (.one 6 (.one 7 (.one 8 (.one 9 (.done)))))))))) (.one 2 (.one 0 (.one 3 (.one 4 (.one 5 (.one 6 (.one 7 (.one 8 (.one 9 (.done))))))))))))],nr:=some [.r 0,.g 94 1 8,.g 94 2 3,.g 94 3 3,.g 94 4 5,.g 94 5 4,.g 94 6 5,.g 94 7 4],ak:=[0],av:=[(1,[35,37]),(4,[35]),(6,[38]),(7,[35]),(10,[35]),(11,[35]),(13,[14]),(14,[35]),(18,[35]),(20,[41]),(22,[35])],lp:=[(4,⟨[0,2,3,5],[.s 0 0,.s 2 0,.s 3 0,.c 2 1 8,.c 2 2 3,.c 2 3 3,.c 2 4 5,.c 2 5 4,.c 2 6 5,.c 2 7 4],[0,2,3],[.s 0 0,.s 2 0,.s 3 0,.c 2 1 8,.c 2 2 3,.c 2 3 3,.c 2 4 5,.c 2 5 4,.c 2 6 5,.c 2 7 4]⟩),(8,⟨[0,2,3,6],[.s 0 0,.s 2 0,.s 3 0,.c 2 1 8,.c 2 2 3,.c 2 3 3,.c 2 4 5,.c 2 5 4,.c 2 6 5,.c 2 7 4],[0,2,3],[.s 0 0,.s 2 0,.s 3 0,.c 2 1 8,.c 2 2 3,.c 2 3 3,.c 2 4 5,.c 2 5 4,.c 2 6 5,.c 2 7 4]⟩)],sh:=[.a [0,8,3,3,5,4,5,4,0]] }
def Qca:Ann:={ ak:=[0],av:=[(1,[35])] }
def Qce:Ann:={ ak:=[0],av:=[(1,[45])] }
def QgM:Ann:={}
def QgG:Ann:={ ord:=[(1,[0,1,3,4,6,7,9,10,2,12,5,8,11,13,14,15,16,17,18,19]),(2,[0,1,3,4,6,7,2,9,5,8,10,11,12,13,14])],sh:=[.a [0,8,3,3,5,4,5,4,0]] }
def QcI:Ann:={ jn:=[(10,(97,74,97))],sh:=[.a [0,0,1,0,0,1,0,0],.n] }
def y7:Ann:={ lp:=[(3,⟨[3,7,8,9],[.s 3 1],[3],[.s 3 1]⟩)] }
def yV:Ann:={ lp:=[(5,⟨[2,5,13,14,15],[.s 2 0,.s 5 1],[5],[.s 5 1]⟩)],sh:=[.z 1] }
def Qar:Ann:={ jn:=[(6,(30,23,30))],lp:=[(3,⟨[0,4,11,12,13],[.s 4 1],[4],[.s 4 1]⟩)],rt:=⟨[2,3],[.s 2 1],[],[]⟩,sh:=[.z 1,.n] }
def QcS:Ann:={ sh:=[.a [0,8,3,3,5,4,5,4,0],.n,.n,.n] }
def QcP:Ann:={ ord:=[(7,[0,1,2,3,4,5,6,7,9,8,10,11,12])],ot:=[(3,.one 0 (.one 1 (.one 2 (.one 3 (.alt (.one 4 (.one 5 (.one 6 (.one 7 (.one 8 (.one 9 (.one 10 (.done)))))))) (.one 8 (.one 4 (.one 5 (.one 6 (.one 7 (.one 9 (.one 10 (.done)))))))))))))],jn:=[(5,(34,29,34))] }
def xS:Ann:={ lp:=[(4,⟨[0,1,12,13],[],[],[]⟩)],rt:=⟨[4],[],[],[]⟩ }
def Qf2:Ann:={}
def xL:Ann:={ lp:=[(4,⟨[0,1,12,13],[],[],[]⟩)],rt:=⟨[4],[],[],[]⟩ }
def xD:Ann:={ lp:=[(4,⟨[0,1,12,13],[],[],[]⟩)],rt:=⟨[4],[],[],[]⟩ }
def yg:Ann:={ lp:=[(4,⟨[0,1,12,13],[],[],[]⟩)],rt:=⟨[4],[],[],[]⟩ }
def yM:Ann:={ lp:=[(4,⟨[0,1,12,13],[],[],[]⟩)],rt:=⟨[4],[],[],[]⟩ }
def za:Ann:={ lp:=[(4,⟨[0,1,12,13],[],[],[]⟩)],rt:=⟨[4],[],[],[]⟩ }
def QgC:Ann:={ jn:=[(1,(6,7,15))] }
def Qfv:Ann:={}
def Qcy:Ann:={ ak:=[0],av:=[(4,[93]),(5,[93]),(6,[93]),(7,[93])] }
def QdL:Ann:={ jn:=[(2,(20,11,20))],sh:=[.a [0,8,3,3,5,4,5,4,0],.n] }
def y0:Ann:={ nr:=some [.r 0,.s 23 3],ak:=[0],av:=[(3,[35]),(5,[35])],lp:=[(3,⟨[0,3,4],[.s 0 0,.s 3 3],[0,3],[.s 0 0,.s 3 3]⟩)],sh:=[.z 3] }
def Qge:Ann:={ ot:=[(5,.one 2 (.one 3 (.one 6 (.alt (.one 0 (.alt (.one 1 (.alt (.one 4 (.one 5 (.alt (.one 7 (.alt (.one 8 (.one 9 (.one 10 (.one 11 (.one 12 (.one 13 (.one 14 (.done)))))))) (.one 12 (.one 8 (.one 9 (.one 10 (.one 11 (.one 13 (.one 14 (.done)))))))))) (.one 12 (.one 7 (.one 8 (.one 9 (.one 10 (.one 11 (.one 13 (.one 14 (.done)))))))))))) (.one 12 (.one 4 (.one 5 (.one 7 (.one 8 (.one 9 (.one 10 (.one 11 (.one 13 (.one 14 (.done))))))))))))) (.alt (.one 4 (.one 5 (.alt (.one 1 (.alt (.one 7 (.alt (.one 8 (.one 9 (.one 10 (.one 11 (.one 12 (.one 13 (.one 14 (.done)))))))) (.one 12 (.one 8 (.one 9 (.one 10 (.one 11 (.one 13 (.one 14 (.done)))))))))) (.one 12 (.one 7 (.one 8 (.one 9 (.one 10 (.one 11 (.one 13 (.one 14 (.done))))))))))) (.alt (.one 7 (.one 1 (.alt (.one 8 (.one 9 (.one 10 (.one 11 (.one 12 (.one 13 (.one 14 (.done)))))))) (.one 12 (.one 8 (.one 9 (.one 10 (.one 11 (.one 13 (.one 14 (.done))))))))))) (.one 12 (.alt (.one 1 (.one 7 (.one 8 (.one 9 (.one 10 (.one 11 (.one 13 (.one 14 (.done))))))))) (.one 7 (.one 1 (.one 8 (.one 9 (.one 10 (.one 11 (.one 13 (.one 14 (.done))))))))))))))) (.one 12 (.alt (.one 1 (.one 4 (.one 5 (.one 7 (.one 8 (.one 9 (.one 10 (.one 11 (.one 13 (.one 14 (.done))))))))))) (.one 4 (.one 5 (.alt (.one 1 (.one 7 (.one 8 (.one 9 (.one 10 (.one 11 (.one 13 (.one 14 (.done))))))))) (.one 7 (.one 1 (.one 8 (.one 9 (.one 10 (.one 11 (.one 13 (.one 14 (.done))))))))))))))))) (.alt (.one 1 (.alt (.one 0 (.alt (.one 4 (.one 5 (.alt (.one 7 (.alt (.one 8 (.one 9 (.one 10 (.one 11 (.one 12 (.one 13 (.one 14 (.done)))))))) (.one 12 (.one 8 (.one 9 (.one 10 (.one 11 (.one 13 (.one 14 (.done)))))))))) (.one 12 (.one 7 (.one 8 (.one 9 (.one 10 (.one 11 (.one 13 (.one 14 (.done)))))))))))) (.one 12 (.one 4 (.one 5 (.one 7 (.one 8 (.one 9 (.one 10 (.one 11 (.one 13 (.one 14 (.done))))))))))))) (.alt (.one 4 (.one 5 (.alt (.one 0 (.alt (.one 7 (.alt (.one 8 (.one 9 (.one 10 (.one 11 (.one 12 (.one 13 (.one 14 (.done)))))))) (.one 12 (.one 8 (.one 9 (.one 10 (.one 11 (.one 13 (.one 14 (.done)))))))))) (.one 12 (.one 7 (.one 8 (.one 9 (.one 10 (.one 11 (.one 13 (.one 14 (.done))))))))))) (.alt (.one 7 (.one 0 (.alt (.one 8 (.one 9 (.one 10 (.one 11 (.one 12 (.one 13 (.one 14 (.done)))))))) (.one 12 (.one 8 (.one 9 (.one 10 (.one 11 (.one 13 (.one 14 (.done))))))))))) (.one 12 (.alt (.one 0 (.one 7 (.one 8 (.one 9 (.one 10 (.one 11 (.one 13 (.one 14 (.done))))))))) (.one 7 (.one 0 (.one 8 (.one 9 (.one 10 (.one 11 (.one 13 (.one 14 (.done))))))))))))))) (.one 12 (.alt (.one 0 (.one 4 (.one 5 (.one 7 (.one 8 (.one 9 (.one 10 (.one 11 (.one 13 (.one 14 (.done))))))))))) (.one 4 (.one 5 (.alt (.one 0 (.one 7 (.one 8 (.one 9 (.one 10 (.one 11 (.one 13 (.one 14 (.done))))))))) (.one 7 (.one 0 (.one 8 (.one 9 (.one 10 (.one 11 (.one 13 (.one 14 (.done))))))))))))))))) (.alt (.one 4 (.one 5 (.alt (.one 0 (.alt (.one 1 (.alt (.one 7 (.alt (.one 8 (.one 9 (.one 10 (.one 11 (.one 12 (.one 13 (.one 14 (.done)))))))) (.one 12 (.one 8 (.one 9 (.one 10 (.one 11 (.one 13 (.one 14 (.done)))))))))) (.one 12 (.one 7 (.one 8 (.one 9 (.one 10 (.one 11 (.one 13 (.one 14 (.done))))))))))) (.alt (.one 7 (.one 1 (.alt (.one 8 (.one 9 (.one 10 (.one 11 (.one 12 (.one 13 (.one 14 (.done)))))))) (.one 12 (.one 8 (.one 9 (.one 10 (.one 11 (.one 13 (.one 14 (.done))))))))))) (.one 12 (.alt (.one 1 (.one 7 (.one 8 (.one 9 (.one 10 (.one 11 (.one 13 (.one 14 (.done))))))))) (.one 7 (.one 1 (.one 8 (.one 9 (.one 10 (.one 11 (.one 13 (.one 14 (.done)))))))))))))) (.alt (.one 1 (.alt (.one 0 (.alt (.one 7 (.alt (.one 8 (.one 9 (.one 10 (.one 11 (.one 12 (.one 13 (.one 14 (.done)))))))) (.one 12 (.one 8 (.one 9 (.one 10 (.one 11 (.one 13 (.one 14 (.done)))))))))) (.one 12 (.one 7 (.one 8 (.one 9 (.one 10 (.one 11 (.one 13 (.one 14 (.done))))))))))) (.alt (.one 7 (.one 0 (.alt (.one 8 (.one 9 (.one 10 (.one 11 (.one 12 (.one 13 (.one 14 (.done)))))))) (.one 12 (.one 8 (.one 9 (.one 10 (.one 11 (.one 13 (.one 14 (.done))))))))))) (.one 12 (.alt (.one 0 (.one 7 (.one 8 (.one 9 (.one 10 (.one 11 (.one 13 (.one 14 (.done))))))))) (.one 7 (.one 0 (.one 8 (.one 9 (.one 10 (.one 11 (.one 13 (.one 14 (.done)))))))))))))) (.alt (.one 7 (.one 0 (.one 1 (.alt (.one 8 (.one 9 (.one 10 (.one 11 (.one 12 (.one 13 (.one 14 (.done)))))))) (.one 12 (.one 8 (.one 9 (.one 10 (.one 11 (.one 13 (.one 14 (.done)))))))))))) (.one 12 (.alt (.one 0 (.alt (.one 1 (.one 7 (.one 8 (.one 9 (.one 10 (.one 11 (.one 13 (.one 14 (.done))))))))) (.one 7 (.one 1 (.one 8 (.one 9 (.one 10 (.one 11 (.one 13 (.one 14 (.done))))))))))) (.alt (.one 1 (.alt (.one 0 (.one 7 (.one 8 (.one 9 (.one 10 (.one 11 (.one 13 (.one 14 (.done))))))))) (.one 7 (.one 0 (.one 8 (.one 9 (.one 10 (.one 11 (.one 13 (.one 14 (.done))))))))))) (.one 7 (.one 0 (.one 1 (.one 8 (.one 9 (.one 10 (.one 11 (.one 13 (.one 14 (.done)))))))))))))))))) (.one 12 (.alt (.one 0 (.alt (.one 1 (.one 4 (.one 5 (.one 7 (.one 8 (.one 9 (.one 10 (.one 11 (.one 13 (.one 14 (.done))))))))))) (.one 4 (.one 5 (.alt (.one 1 (.one 7 (.one 8 (.one 9 (.one 10 (.one 11 (.one 13 (.one 14 (.done))))))))) (.one 7 (.one 1 (.one 8 (.one 9 (.one 10 (.one 11 (.one 13 (.one 14 (.done)))))))))))))) (.alt (.one 1 (.alt (.one 0 (.one 4 (.one 5 (.one 7 (.one 8 (.one 9 (.one 10 (.one 11 (.one 13 (.one 14 (.done))))))))))) (.one 4 (.one 5 (.alt (.one 0 (.one 7 (.one 8 (.one 9 (.one 10 (.one 11 (.one 13 (.one 14 (.done))))))))) (.one 7 (.one 0 (.one 8 (.one 9 (.one 10 (.one 11 (.one 13 (.one 14 (.done)))))))))))))) (.one 4 (.one 5 (.alt (.one 0 (.alt (.one 1 (.one 7 (.one 8 (.one 9 (.one 10 (.one 11 (.one 13 (.one 14 (.done))))))))) (.one 7 (.one 1 (.one 8 (.one 9 (.one 10 (.one 11 (.one 13 (.one 14 (.done))))))))))) (.alt (.one 1 (.alt (.one 0 (.one 7 (.one 8 (.one 9 (.one 10 (.one 11 (.one 13 (.one 14 (.done))))))))) (.one 7 (.one 0 (.one 8 (.one 9 (.one 10 (.one 11 (.one 13 (.one 14 (.done))))))))))) (.one 7 (.one 0 (.one 1 (.one 8 (.one 9 (.one 10 (.one 11 (.one 13 (.one 14 (.done)))))))))))))))))))))))],nr:=some [.r 0,.r 1,.r 2,.r 3,.r 4,.r 5,.r 6,.r 7,.g 42 1 8,.g 42 2 3,.g 42 3 3,.g 42 4 5,.g 42 5 4,.g 42 6 5,.g 42 7 4],ak:=[0,1,2,3,4,5,6,7],av:=[(1,[97]),(2,[35]),(4,[41]),(5,[35,100])],sh:=[.a [0,8,3,3,5,4,5,4,0]] }
def yp:Ann:={ ot:=[(7,.one 0 (.one 1 (.one 2 (.one 3 (.one 4 (.one 6 (.one 7 (.one 12 (.alt (.one 5 (.alt (.one 8 (.alt (.one 9 (.one 10 (.one 11 (.one 13 (.one 14 (.one 15 (.one 16 (.done)))))))) (.one 10 (.alt (.one 9 (.one 11 (.one 13 (.one 14 (.one 15 (.one 16 (.done))))))) (.one 11 (.one 13 (.one 9 (.one 14 (.one 15 (.one 16 (.done))))))))))) (.one 10 (.alt (.one 8 (.alt (.one 9 (.one 11 (.one 13 (.one 14 (.one 15 (.one 16 (.done))))))) (.one 11 (.one 13 (.one 9 (.one 14 (.one 15 (.one 16 (.done))))))))) (.one 11 (.one 13 (.one 8 (.one 9 (.one 14 (.one 15 (.one 16 (.done)))))))))))) (.alt (.one 8 (.alt (.one 5 (.alt (.one 9 (.one 10 (.one 11 (.one 13 (.one 14 (.one 15 (.one 16 (.done)))))))) (.one 10 (.alt (.one 9 (.one 11 (.one 13 (.one 14 (.one 15 (.one 16 (.done))))))) (.one 11 (.one 13 (.one 9 (.one 14 (.one 15 (.one 16 (.done))))))))))) (.one 10 (.alt (.one 5 (.alt (.one 9 (.one 11 (.one 13 (.one 14 (.one 15 (.one 16 (.done))))))) (.one 11 (.one 13 (.one 9 (.one 14 (.one 15 (.one 16 (.done))))))))) (.one 11 (.one 13 (.one 5 (.one 9 (.one 14 (.one 15 (.one 16 (.done)))))))))))) (.one 10 (.alt (.one 5 (.alt (.one 8 (.alt (.one 9 (.one 11 (.one 13 (.one 14 (.one 15 (.one 16 (.done))))))) (.one 11 (.one 13 (.one 9 (.one 14 (.one 15 (.one 16 (.done))))))))) (.one 11 (.one 13 (.one 8 (.one 9 (.one 14 (.one 15 (.one 16 (.done)))))))))) (.alt (.one 8 (.alt (.one 5 (.alt (.one 9 (.one 11 (.one 13 (.one 14 (.one 15 (.one 16 (.done))))))) (.one 11 (.one 13 (.one 9 (.one 14 (.one 15 (.one 16 (.done))))))))) (.one 11 (.one 13 (.one 5 (.one 9 (.one 14 (.one 15 (.one 16 (.done)))))))))) (.one 11 (.one 13 (.alt (.one 5 (.one 8 (.one 9 (.one 14 (.one 15 (.one 16 (.done))))))) (.one 8 (.one 5 (.one 9 (.one 14 (.one 15 (.one 16 (.done)))))))))))))))))))))))],eb:=[(7,[47])],av:=[(8,[102])],jn:=[(5,(44,30,44))],lp:=[(5,⟨[1,3,4,8,10,12,13],[.s 4 0,.s 8 0,.s 10 0,.c 2 1 8,.c 2 2 3,.c 2 3 3,.c 2 4 5,.c 2 5 4,.c 2 6 5,.c 2 7 4],[1,3,4,8,10,12,13],[.s 4 0,.s 8 0,.s 10 0,.c 2 1 8,.c 2 2 3,.c 2 3 3,.c 2 4 5,.c 2 5 4,.c 2 6 5,.c 2 7 4]⟩)],sh:=[.a [0,8,3,3,5,4,5,4,0],.n] }
def Qb8:Ann:={ av:=[(5,[102])],jn:=[(2,(17,9,17))],sh:=[.a [0,8,3,3,5,4,5,4,0],.n] }
def Qdf:Ann:={ ak:=[0,1],av:=[(1,[35])] }
def Qgq:Ann:={ ot:=[(9,.one 0 (.one 1 (.one 2 (.one 3 (.one 4 (.one 5 (.one 6 (.one 7 (.one 8 (.one 9 (.one 10 (.one 11 (.one 12 (.one 13 (.one 14 (.one 15 (.one 16 (.one 17 (.alt (.one 18 (.alt (.one 19 (.one 20 (.one 21 (.one 22 (.one 23 (.one 24 (.one 25 (.done)))))))) (.one 23 (.one 19 (.one 20 (.one 21 (.one 22 (.one 24 (.one 25 (.done)))))))))) (.one 23 (.one 18 (.one 19 (.one 20 (.one 21 (.one 22 (.one 24 (.one 25 (.done))))))))))))))))))))))))))))],av:=[(9,[110]),(10,[102])],jn:=[(3,(33,23,33))],sh:=[.a [0,8,3,3,5,4,5,4,0],.n] }
def Qeu:Ann:={ jn:=[(3,(24,19,24))] }
def Qeq:Ann:={ av:=[(13,[102])],jn:=[(3,(34,19,34))],sh:=[.a [0,8,3,3,5,4,5,4,0],.n] }
def Qe8:Ann:={ ak:=[0,1],av:=[(1,[35])] }
def QgL:Ann:={ sh:=[.z 8] }
def wj:Ann:={ lp:=[(3,⟨[3,7,8,9],[.s 3 3],[3],[.s 3 3]⟩)],sh:=[.z 3] }
def Qeh:Ann:={ sh:=[.z 3] }
def QeG:Ann:={ sh:=[.z 5] }
def Qck:Ann:={ sh:=[.z 4] }
def Qfh:Ann:={ sh:=[.z 5] }
def QeE:Ann:={ sh:=[.z 4] }
def yO:Ann:={ jn:=[(1,(23,6,23)),(7,(38,29,38))],lp:=[(5,⟨[0,4,25,26],[],[4],[]⟩)],rt:=⟨[2,3],[],[],[]⟩ }
def wG:Ann:={ lp:=[(5,⟨[4,14,15,16],[.s 4 1,.s 14 1],[4],[.s 4 1]⟩)],rt:=⟨[2,3],[.s 2 1],[],[]⟩,sh:=[.z 1,.n] }
def Qgy:Ann:={}
def Qaj:Ann:={ lp:=[(2,⟨[0,3],[],[],[]⟩)],rt:=⟨[2],[],[],[]⟩ }
def Qgp:Ann:={ ord:=[(3,[0,1,3,4,6,7,9,10,11,12,14,15,17,18,19,20,21,22,2,5,8,13,16,23,24,25,26])] }
def Qfk:Ann:={}
def Qd3:Ann:={}
def zD:Ann:={ jn:=[(6,(34,15,34))],lp:=[(4,⟨[0,8,9,10],[],[],[]⟩)],rt:=⟨[2],[],[],[]⟩ }
def Qgz:Ann:={}
def Qgm:Ann:={ sh:=[.a [0,8,3,3,5,4,5,4,0],.n] }
def Qe6:Ann:={ av:=[(6,[137])],sh:=[.a [0,8,3,3,5,4,5,4,0],.n] }
def QeF:Ann:={ ot:=[(5,.one 0 (.one 1 (.one 2 (.one 3 (.one 4 (.one 6 (.one 7 (.alt (.one 5 (.one 8 (.one 9 (.one 10 (.one 11 (.done)))))) (.one 8 (.one 5 (.one 9 (.one 10 (.one 11 (.done))))))))))))))],av:=[(5,[139]),(6,[137])],jn:=[(3,(40,27,40))],sh:=[.a [0,8,3,3,5,4,5,4,0],.n] }
def QdR:Ann:={ av:=[(12,[137])],jn:=[(3,(33,18,33))],sh:=[.a [0,8,3,3,5,4,5,4,0],.n] }
def Qfq:Ann:={ av:=[(12,[137])],jn:=[(3,(30,25,30))],sh:=[.a [0,8,3,3,5,4,5,4,0],.n] }
def Qd4:Ann:={ av:=[(11,[137])],sh:=[.a [0,8,3,3,5,4,5,4,0],.n] }
def QdY:Ann:={ av:=[(11,[137])],jn:=[(3,(42,28,42)),(9,(80,68,80))],sh:=[.a [0,8,3,3,5,4,5,4,0],.n] }
def Qdl:Ann:={ av:=[(3,[137])],sh:=[.a [0,8,3,3,5,4,5,4,0],.n] }
def Qdj:Ann:={}
def Qe9:Ann:={}
def Qeb:Ann:={}
def Qgg:Ann:={ sh:=[.z 2] }
def wu:Ann:={ ord:=[(5,[0,1,2,4,5,9,10,3,6,7,8,11,12,13,14,15])],lp:=[(3,⟨[5,11,12,13],[.s 5 1,.s 11 5],[5],[.s 5 1]⟩)] }
def Qeg:Ann:={}
def QdI:Ann:={ jn:=[(2,(10,5,10))] }
def QdK:Ann:={ jn:=[(4,(16,17,26)),(6,(26,27,35)),(8,(35,36,44))] }
def zI:Ann:={ lp:=[(3,⟨[1,5,9,10,11],[.s 5 1],[5],[.s 5 1]⟩)],sh:=[.z 1] }
def Qdo:Ann:={}
def Qfm:Ann:={}
def Qal:Ann:={ lp:=[(3,⟨[3,8,9,10],[.s 3 1],[3],[.s 3 1]⟩)] }
def xC:Ann:={ ord:=[(8,[0,1,2,5,6,10,11,14,3,4,7,8,9,12,13,15,16,17,18])],lp:=[(3,⟨[3,8,9,10],[.s 3 1],[3],[.s 3 1]⟩)] }
def QgK:Ann:={}
def Qc3:Ann:={}
def ym:Ann:={ lp:=[(4,⟨[1,2,15,16,17],[],[],[]⟩)],rt:=⟨[6],[],[],[]⟩ }
def QfA:Ann:={ jn:=[(1,(4,5,24))] }
def wU:Ann:={ lp:=[(4,⟨[0,1,12,13],[],[],[]⟩)],rt:=⟨[4],[],[],[]⟩ }
def Qfc:Ann:={}
def Qdr:Ann:={ ot:=[(2,.one 0 (.one 5 (.alt (.one 1 (.alt (.one 2 (.alt (.one 3 (.one 4 (.one 6 (.one 7 (.one 8 (.one 9 (.one 10 (.one 11 (.one 12 (.done)))))))))) (.one 6 (.one 3 (.one 4 (.one 7 (.one 8 (.one 9 (.one 10 (.one 11 (.one 12 (.done)))))))))))) (.one 6 (.one 2 (.one 3 (.one 4 (.one 7 (.one 8 (.one 9 (.one 10 (.one 11 (.one 12 (.done))))))))))))) (.one 6 (.alt (.one 1 (.one 2 (.one 3 (.one 4 (.one 7 (.one 8 (.one 9 (.one 10 (.one 11 (.one 12 (.done))))))))))) (.one 7 (.alt (.one 1 (.one 2 (.one 3 (.one 4 (.one 8 (.one 9 (.one 10 (.one 11 (.one 12 (.done)))))))))) (.one 8 (.one 9 (.one 1 (.one 2 (.one 3 (.one 4 (.one 10 (.one 11 (.one 12 (.done))))))))))))))))),(3,.one 0 (.one 4 (.alt (.one 1 (.alt (.one 2 (.alt (.one 3 (.one 5 (.one 6 (.one 7 (.one 8 (.one 9 (.done))))))) (.one 5 (.one 3 (.one 6 (.one 7 (.one 8 (.one 9 (.done))))))))) (.one 5 (.one 2 (.one 3 (.one 6 (.one 7 (.one 8 (.one 9 (.done)))))))))) (.one 5 (.alt (.one 1 (.one 2 (.one 3 (.one 6 (.one 7 (.one 8 (.one 9 (.done)))))))) (.one 6 (.alt (.one 1 (.one 2 (.one 3 (.one 7 (.one 8 (.one 9 (.done))))))) (.one 7 (.alt (.one 1 (.one 2 (.one 3 (.one 8 (.one 9 (.done)))))) (.one 8 (.one 1 (.one 2 (.one 3 (.one 9 (.done))))))))))))))),(4,.one 0 (.one 1 (.one 5 (.alt (.one 2 (.alt (.one 3 (.alt (.one 4 (.one 6 (.one 7 (.one 8 (.one 9 (.one 10 (.one 11 (.one 12 (.one 13 (.one 14 (.done))))))))))) (.one 6 (.one 4 (.one 7 (.one 8 (.one 9 (.one 10 (.one 11 (.one 12 (.one 13 (.one 14 (.done))))))))))))) (.one 6 (.one 3 (.one 4 (.one 7 (.one 8 (.one 9 (.one 10 (.one 11 (.one 12 (.one 13 (.one 14 (.done)))))))))))))) (.one 6 (.alt (.one 2 (.one 3 (.one 4 (.one 7 (.one 8 (.one 9 (.one 10 (.one 11 (.one 12 (.one 13 (.one 14 (.done)))))))))))) (.one 7 (.alt (.one 2 (.one 3 (.one 4 (.one 8 (.one 9 (.one 10 (.one 11 (.one 12 (.one 13 (.one 14 (.done))))))))))) (.one 8 (.one 2 (.one 3 (.one 4 (.one 9 (.one 10 (.one 11 (.one 12 (.one 13 (.one 14 (.done)))))))))))))))))))],ak:=[0] }
def QeP:Ann:={ ord:=[(1,[0,1,2,3,4,6,7,9,10,11,13,14,15,17,18,19,21,22,23,25,26,27,29,30,5,8,12,16,20,24,28,31,32])],eb:=[(1,[5,12,16,20,24,28])],sh:=[.a [0,8,3,3,5,4,5,4,0]] }
def QgA:Ann:={ jn:=[(1,(48,3,48)),(3,(86,49,86)),(5,(2,87,93))] }
def xQ:Ann:={ lp:=[(3,⟨[0,3,4],[],[3],[]⟩)] }
def QfK:Ann:={ ak:=[0],av:=[(1,[35,180])] }
def Qdk:Ann:={}
def QfQ:Ann:={ av:=[(10,[102])],sh:=[.a [0,8,3,3,5,4,5,4,0],.n] }
def qF:Ann:={ nr:=some [.r 0,.g 20 1 2],ak:=[0],av:=[(1,[185]),(3,[35]),(4,[35])],sh:=[.a [0,2,0]] }
def mJ:Ann:={ ot:=[(9,.one 1 (.one 2 (.one 3 (.one 8 (.one 9 (.one 10 (.alt (.one 0 (.alt (.one 4 (.one 5 (.one 6 (.one 7 (.one 11 (.one 12 (.done))))))) (.one 5 (.alt (.one 4 (.one 6 (.one 7 (.one 11 (.one 12 (.done)))))) (.one 6 (.one 4 (.one 7 (.one 11 (.one 12 (.done)))))))))) (.one 5 (.alt (.one 0 (.alt (.one 4 (.one 6 (.one 7 (.one 11 (.one 12 (.done)))))) (.one 6 (.one 4 (.one 7 (.one 11 (.one 12 (.done)))))))) (.one 6 (.one 0 (.one 4 (.one 7 (.one 11 (.one 12 (.done))))))))))))))))],jn:=[(6,(7,19,40)),(10,(67,62,67))],lp:=[(4,⟨[0,3,6,7,8],[.s 3 0],[0,3,6,7],[.s 3 0]⟩)],sh:=[.z 5,.n] }
def vH:Ann:={ jn:=[(1,(19,8,19))],sh:=[.a [0,8,3,3,5,4,5,4,0],.n] }
def lD:Ann:={ jn:=[(4,(22,12,22))],lp:=[(2,⟨[0,1,5],[],[],[]⟩)],rt:=⟨[4],[],[],[]⟩ }
def uR:Ann:={ jn:=[(1,(6,7,15))] }
def lq:Ann:={ jn:=[(5,(44,13,44))],lp:=[(3,⟨[0,1,5,6],[],[0,5],[]⟩)] }
def mL:Ann:={ lp:=[(2,⟨[0,1,5],[],[],[]⟩)],rt:=⟨[4],[],[],[]⟩ }
def kW:Ann:={ lp:=[(2,⟨[0,1,5],[],[],[]⟩)],rt:=⟨[4],[],[],[]⟩ }
def tv:Ann:={ sh:=[.a [0,8,3,3,5,4,5,4,0],.n] }
def rb:Ann:={ jn:=[(3,(24,18,24)),(6,(11,31,49)),(8,(60,54,60))],sh:=[.z 5,.n] }
def uU:Ann:={ sh:=[.a [0,8,3,3,5,4,5,4,0],.n] }
def pV:Ann:={ jn:=[(1,(12,5,12))] }
def lZ:Ann:={ lp:=[(2,⟨[1,2,4,6],[.s 2 0,.s 4 0],[4],[.s 4 0]⟩)],rt:=⟨[4,5],[.s 4 0],[],[]⟩ }
def uC:Ann:={ sh:=[.z 2] }
def ku:Ann:={ lp:=[(2,⟨[0,1,5],[],[],[]⟩)],rt:=⟨[4],[],[],[]⟩ }
def un:Ann:={}
def sq:Ann:={}
def uh:Ann:={ jn:=[(1,(5,6,19)),(3,(19,20,30))] }
def qg:Ann:={ sh:=[.z 2] }
def wd:Ann:={}
def su:Ann:={ jn:=[(1,(2,3,49))] }
def mR:Ann:={ lp:=[(5,⟨[3,10,11,12],[.s 3 1],[3],[.s 3 1]⟩)] }
def uv:Ann:={}
def sZ:Ann:={ jn:=[(1,(2,3,21))] }
def vS:Ann:={ jn:=[(1,(5,6,14))] }
def rG:Ann:={ ord:=[(1,[0,1,2,3,4,5,6,7,8,9,10,11,12,13,14,15,16,17,18,19,20,21,22,23,24,25,26,27,28,29,30,31,32,33,34,35,36,37,38,39,40,41,42,44,45,43,46,47,48,49,50,51,52,53])],jn:=[(1,(2,3,56))] }
def lN:Ann:={ av:=[(7,[212])],jn:=[(5,(32,17,32))],lp:=[(5,⟨[0,3,6,7],[.s 3 0,.s 6 8],[0,3,6,7],[.s 3 0,.s 6 8]⟩)],sh:=[.z 8,.n] }
def kH:Ann:={ av:=[(8,[213])],jn:=[(5,(29,16,29))],lp:=[(5,⟨[0,3,6,7],[.s 3 0,.s 6 3],[0,3,6,7],[.s 3 0,.s 6 3]⟩)],sh:=[.z 3,.n] }
def sd:Ann:={ jn:=[(3,(32,14,32))],sh:=[.z 3,.n] }
def rz:Ann:={ ot:=[(5,.one 0 (.one 2 (.alt (.one 1 (.one 3 (.one 4 (.one 5 (.done))))) (.one 3 (.one 1 (.one 4 (.one 5 (.done))))))))],sh:=[.z 5,.n] }
def fH:Ann:={ jn:=[(1,(19,8,19))],sh:=[.a [0,8,3,3,5,4,5,4,0],.n] }
def k0:Ann:={ av:=[(7,[218])],jn:=[(2,(24,10,24)),(5,(39,26,39))],lp:=[(5,⟨[0,3,6,7],[.s 3 0,.s 6 5],[0,3,6,7],[.s 3 0,.s 6 5]⟩)],sh:=[.z 5,.n] }
def vK:Ann:={}
def tj:Ann:={ jn:=[(1,(5,6,19)),(3,(19,20,30))] }
def uq:Ann:={ jn:=[(3,(22,16,22)),(6,(47,29,47))],sh:=[.z 5,.n] }
def sj:Ann:={ jn:=[(2,(24,11,24))] }
def km:Ann:={ jn:=[(6,(35,16,35))],lp:=[(4,⟨[1,5,6,10,11,12],[.s 5 0],[5],[.s 5 0]⟩)] }
def qH:Ann:={ sh:=[.a [0,8,3,3,5,4,5,4,0],.n] }
def uw:Ann:={ jn:=[(1,(12,5,12))] }
def qv:Ann:={ ot:=[(1,.one 0 (.one 2 (.alt (.one 1 (.one 3 (.one 4 (.one 5 (.done))))) (.one 3 (.one 1 (.one 4 (.one 5 (.done))))))))],sh:=[.z 4,.n] }
def tt:Ann:={ jn:=[(1,(12,5,12))] }
def sf:Ann:={ sh:=[.z 2] }
def vN:Ann:={}
def OQ:Ann:={ lp:=[(2,⟨[0,1,7,8],[],[],[]⟩)],rt:=⟨[4],[],[],[]⟩ }
def sJ:Ann:={}
def pS:Ann:={ jn:=[(1,(19,7,19))] }
def uK:Ann:={}
def lP:Ann:={ lp:=[(3,⟨[1,5,9,10,11],[.s 5 5],[5],[.s 5 5]⟩)],sh:=[.z 5] }
def vw:Ann:={}
def lB:Ann:={ lp:=[(2,⟨[0,1,7,8],[],[],[]⟩)],rt:=⟨[4],[],[],[]⟩ }
def pR:Ann:={}
def qd:Ann:={ jn:=[(1,(4,5,13))] }
def gI:Ann:={}
def pN:Ann:={ jn:=[(1,(3,4,14))] }
def l7:Ann:={ jn:=[(6,(58,15,58))],lp:=[(4,⟨[0,8,9,10],[],[],[]⟩)],rt:=⟨[2],[],[],[]⟩ }
def kn:Ann:={ lp:=[(3,⟨[1,5,8,9,10],[],[5],[]⟩)] }
def lx:Ann:={ lp:=[(5,⟨[1,5,12,13,14],[],[5],[]⟩)] }
def kQ:Ann:={ jn:=[(6,(38,22,38))],lp:=[(3,⟨[1,3,13,14,15],[.s 1 0,.s 3 1],[],[]⟩)],rt:=⟨[2],[],[],[]⟩ }
def lU:Ann:={ jn:=[(4,(20,13,20)),(6,(38,26,38))],lp:=[(2,⟨[1,7,8,9],[.s 1 0],[],[]⟩)],rt:=⟨[2],[],[],[]⟩ }
def kV:Ann:={ jn:=[(4,(20,13,20)),(6,(38,26,38))],lp:=[(2,⟨[1,7,8,9],[.s 1 0],[],[]⟩)],rt:=⟨[2],[],[],[]⟩ }
def lG:Ann:={ jn:=[(7,(2,21,29))],lp:=[(3,⟨[1,3,8,9,10],[.s 1 0,.s 8 1],[1,3],[.s 1 0]⟩)] }
def kf:Ann:={ lp:=[(2,⟨[0,1,7,8],[],[],[]⟩)],rt:=⟨[4],[],[],[]⟩ }
def t6:Ann:={}
def mE:Ann:={ ord:=[(5,[0,1,2,3,4,5,6,7,8,9,10,11,13,14,15,16,17,12,18,19,20,21])],eb:=[(5,[18])],lp:=[(3,⟨[0,3,4],[.s 3 3],[3],[.s 3 3]⟩)],sh:=[.z 3] }
def mN:Ann:={ jn:=[(4,(35,10,35))],lp:=[(2,⟨[0,3],[],[0],[]⟩)],rt:=⟨[2],[],[],[]⟩ }
def kl:Ann:={ jn:=[(4,(61,10,61))],lp:=[(2,⟨[0,3],[],[0],[]⟩)],rt:=⟨[2],[],[],[]⟩ }
def fR:Ann:={ jn:=[(4,(53,11,53)),(9,(77,59,77))],lp:=[(2,⟨[0,3],[],[0],[]⟩),(7,⟨[0,3,4],[],[0,3],[]⟩)],rt:=⟨[2],[],[],[]⟩ }
def gP:Ann:={ jn:=[(5,(58,16,58)),(10,(84,64,84))],lp:=[(2,⟨[0,3],[],[0],[]⟩),(8,⟨[0,3,4,5],[.s 4 0],[0,3],[]⟩)],rt:=⟨[2],[],[],[]⟩ }
def kj:Ann:={ jn:=[(3,(15,7,15)),(7,(67,25,67)),(10,(96,73,96))],lp:=[(3,⟨[0,3,4],[],[0],[]⟩)],rt:=⟨[2],[],[],[]⟩ }
def lO:Ann:={ jn:=[(5,(58,15,58))],lp:=[(2,⟨[0,3],[],[0],[]⟩)],rt:=⟨[2],[],[],[]⟩ }
def ba:Ann:={ ord:=[(13,[0,1,2,3,4,5,6,7,8,9,10,11,14,15,12,13,16,17,18,19,20,21,22,23,24,25,26,27,28,29])],jn:=[(13,(77,48,77)),(18,(103,85,103))],lp:=[(5,⟨[1,3,4],[.s 1 0,.s 3 1],[1,3],[.s 1 0,.s 3 1]⟩),(10,⟨[1,3,5],[.s 1 0,.s 3 1],[1],[.s 1 0]⟩),(16,⟨[1,7],[.s 1 0],[],[]⟩)],rt:=⟨[2],[],[],[]⟩ }
def ms:Ann:={ ord:=[(8,[0,1,2,3,4,5,6,7,8,9,10,11,12,13,14,15,16,17,18,19,20,21,22,23,24,25,26,27,28,29,30,32,33,34,35,36,38,31,37,39,40,41,42,43,44,45,46,47])],jn:=[(8,(77,30,77))],lp:=[(4,⟨[1,3],[.s 1 0],[],[]⟩)],rt:=⟨[2],[],[],[]⟩ }
def tX:Ann:={ ak:=[0],av:=[(1,[35])] }
def mw:Ann:={ ot:=[(4,.one 1 (.one 2 (.one 3 (.one 8 (.one 9 (.one 10 (.alt (.one 0 (.alt (.one 4 (.one 5 (.one 6 (.one 7 (.one 11 (.one 12 (.done))))))) (.one 5 (.alt (.one 4 (.one 6 (.one 7 (.one 11 (.one 12 (.done)))))) (.one 6 (.one 4 (.one 7 (.one 11 (.one 12 (.done)))))))))) (.one 5 (.alt (.one 0 (.alt (.one 4 (.one 6 (.one 7 (.one 11 (.one 12 (.done)))))) (.one 6 (.one 4 (.one 7 (.one 11 (.one 12 (.done)))))))) (.one 6 (.one 0 (.one 4 (.one 7 (.one 11 (.one 12 (.done))))))))))))))))],jn:=[(2,(23,8,23))],lp:=[(2,⟨[0,3,6],[.s 3 0],[0,3,6],[.s 3 0]⟩)],sh:=[.z 8,.n] }
def lg:Ann:={ ot:=[(4,.one 0 (.one 1 (.one 2 (.one 4 (.one 8 (.one 9 (.one 10 (.alt (.one 3 (.one 5 (.one 6 (.one 7 (.one 11 (.one 12 (.one 13 (.done)))))))) (.one 5 (.one 3 (.one 6 (.one 7 (.one 11 (.one 12 (.one 13 (.done))))))))))))))))],jn:=[(2,(21,8,21))],lp:=[(2,⟨[0,3,6],[.s 3 0],[0,3,6],[.s 3 0]⟩)],sh:=[.z 3,.n] }
def mD:Ann:={ jn:=[(3,(34,16,34))],lp:=[(6,⟨[3,6,7,8],[.s 3 0,.s 6 3],[6],[.s 6 3]⟩)],sh:=[.z 3,.n] }
def rN:Ann:={ ot:=[(5,.one 1 (.alt (.one 0 (.alt (.one 2 (.one 3 (.one 4 (.one 5 (.one 6 (.done)))))) (.one 3 (.alt (.one 2 (.one 4 (.one 5 (.one 6 (.done))))) (.one 4 (.one 2 (.one 5 (.one 6 (.done))))))))) (.one 3 (.alt (.one 0 (.alt (.one 2 (.one 4 (.one 5 (.one 6 (.done))))) (.one 4 (.one 2 (.one 5 (.one 6 (.done))))))) (.one 4 (.one 0 (.one 2 (.one 5 (.one 6 (.done))))))))))],sh:=[.z 5,.n] }
def mc:Ann:={ nr:=some [.r 0,.s 24 2],ak:=[0],av:=[(2,[35]),(5,[35])],lp:=[(3,⟨[0,3,4],[.s 0 0,.s 3 2],[0,3],[.s 0 0,.s 3 2]⟩)],sh:=[.z 2] }
def mb:Ann:={ jn:=[(3,(21,15,21))],lp:=[(6,⟨[6,7,8],[.s 6 3],[6],[.s 6 3]⟩)],sh:=[.z 3,.n] }
def sM:Ann:={ ot:=[(1,.one 1 (.alt (.one 0 (.alt (.one 2 (.one 3 (.one 4 (.one 5 (.one 6 (.done)))))) (.one 3 (.alt (.one 2 (.one 4 (.one 5 (.one 6 (.done))))) (.one 4 (.one 2 (.one 5 (.one 6 (.done))))))))) (.one 3 (.alt (.one 0 (.alt (.one 2 (.one 4 (.one 5 (.one 6 (.done))))) (.one 4 (.one 2 (.one 5 (.one 6 (.done))))))) (.one 4 (.one 0 (.one 2 (.one 5 (.one 6 (.done))))))))))],sh:=[.z 4,.n] }
def ua:Ann:={ jn:=[(1,(2,3,26))] }
def lM:Ann:={ lp:=[(2,⟨[0,1,5],[],[],[]⟩)],rt:=⟨[4],[],[],[]⟩ }
def qX:Ann:={ jn:=[(1,(19,7,19))] }
def uG:Ann:={ jn:=[(1,(2,3,26))] }
def mh:Ann:={ jn:=[(4,(43,10,43))],lp:=[(2,⟨[0,3],[],[0],[]⟩)],rt:=⟨[2],[],[],[]⟩ }
def tF:Ann:={}
def mC:Ann:={ jn:=[(4,(33,16,33))],lp:=[(2,⟨[0,1,2,9,10,11],[],[],[]⟩)],rt:=⟨[6],[],[],[]⟩ }
def vg:Ann:={ jn:=[(1,(2,3,18))] }
def rj:Ann:={ jn:=[(1,(2,3,26))] }
def th:Ann:={ jn:=[(1,(4,5,13))] }
def mi:Ann:={ jn:=[(6,(51,15,51))],lp:=[(4,⟨[0,8,9,10],[],[],[]⟩)],rt:=⟨[2],[],[],[]⟩ }
def fV:Ann:={ jn:=[(6,(59,17,59)),(11,(82,68,82))],lp:=[(4,⟨[0,10,11,12],[],[],[]⟩),(9,⟨[0,4,10,11,12,62,63,64],[.s 4 0],[0,10,11,12],[]⟩)],rt:=⟨[2],[],[],[]⟩ }
def kU:Ann:={ jn:=[(7,(61,17,61)),(13,(83,73,83))],lp:=[(5,⟨[0,3,10,11,12],[],[],[]⟩)],rt:=⟨[2],[],[],[]⟩ }
def aY:Ann:={ ord:=[(7,[0,1,2,3,4,5,6,7,8,9,10,11,12,13,14,15,18,19,20,21,16,17,22,23,24])],jn:=[(7,(54,30,54)),(13,(73,63,73))],lp:=[(5,⟨[1,3,23,24,25],[.s 1 0,.s 3 1],[1,3],[.s 1 0,.s 3 1]⟩),(11,⟨[1,3,57,58,59],[.s 1 0,.s 3 1],[1,3],[.s 1 0,.s 3 1]⟩),(17,⟨[1,75,76,77],[.s 1 0,.s 75 1],[],[]⟩)],rt:=⟨[2],[],[],[]⟩ }
def kS:Ann:={ ord:=[(7,[0,1,2,3,4,5,6,7,8,9,10,11,12,13,14,15,16,17,18,19,20,21,22,24,26,27,23,25,28,29,30])],jn:=[(7,(56,26,56))],lp:=[(4,⟨[1,14,15,16],[.s 1 0],[],[]⟩)],rt:=⟨[2],[],[],[]⟩ }
def W0:Ann:={ lp:=[(3,⟨[1,3,13,14,15],[.s 1 0],[1,3],[.s 1 0]⟩),(8,⟨[1,3,25,26,27],[.s 1 0],[1,3],[.s 1 0]⟩),(13,⟨[1,3,37,38,39],[.s 1 0],[1,3],[.s 1 0]⟩),(18,⟨[3,49,50,51],[],[3],[]⟩)] }
def mM:Ann:={ jn:=[(5,(37,15,37))],lp:=[(3,⟨[0,1,5,8,9,10],[],[5],[]⟩)] }
def tE:Ann:={}
def qJ:Ann:={}
def qx:Ann:={ jn:=[(1,(3,4,16))] }
def k7:Ann:={ lp:=[(2,⟨[1,7,8,9],[],[],[]⟩)],rt:=⟨[4],[],[],[]⟩ }
def rQ:Ann:={ jn:=[(1,(2,3,26))] }
def kK:Ann:={ jn:=[(6,(39,15,39))],lp:=[(4,⟨[0,8,9,10],[],[],[]⟩)],rt:=⟨[2],[],[],[]⟩ }
def qp:Ann:={}
def tu:Ann:={ jn:=[(3,(19,13,19))],sh:=[.z 3,.n] }
def mV:Ann:={ jn:=[(6,(24,15,24))],lp:=[(4,⟨[0,8,9,10],[],[],[]⟩)],rt:=⟨[2],[],[],[]⟩ }
def vE:Ann:={ ac:=[(2,0)],sh:=[.z 3] }
def aX:Ann:={ jn:=[(2,(23,15,23))],lp:=[(6,⟨[0,1,5,6,25,26,27],[.s 5 1],[0,1,5,6],[.s 5 1]⟩),(16,⟨[0,5,6,9,43,44,45],[.s 5 1],[5,9],[.s 5 1]⟩),(23,⟨[5,9,13],[.s 5 1],[5],[.s 5 1]⟩)],rt:=⟨[4],[.s 4 1],[],[]⟩,sh:=[.z 1] }
def kr:Ann:={ lp:=[(2,⟨[0,1,7,8],[],[],[]⟩)],rt:=⟨[4],[],[],[]⟩ }
def tO:Ann:={}
def lS:Ann:={ lp:=[(3,⟨[3,6,7,8],[],[3],[]⟩)] }
def lA:Ann:={ lp:=[(2,⟨[0,1,7,8],[],[],[]⟩)],rt:=⟨[4],[],[],[]⟩ }
def ta:Ann:={}
def rc:Ann:={}
def k9:Ann:={ ac:=[(10,0)],jn:=[(7,(36,20,36))],lp:=[(5,⟨[0,1,5,13,14,15],[.s 5 1],[5],[.s 5 1]⟩)],sh:=[.z 1] }
def kz:Ann:={ lp:=[(2,⟨[0,1,5],[],[],[]⟩)],rt:=⟨[4],[],[],[]⟩ }
def qN:Ann:={}
def sV:Ann:={ jn:=[(1,(4,5,14))] }
def kE:Ann:={ lp:=[(3,⟨[3,7,8,9],[.s 3 1],[3],[.s 3 1]⟩)],sh:=[.z 1] }
def rl:Ann:={ jn:=[(1,(2,3,21))] }
def qq:Ann:={}
def lh:Ann:={ lp:=[(3,⟨[0,1,2,7,8],[],[7],[]⟩)] }
def mo:Ann:={ jn:=[(3,(16,9,16)),(6,(42,28,42))],lp:=[(3,⟨[0,1,5,6],[.s 5 1],[5],[.s 5 1]⟩)],sh:=[.z 1] }
def lI:Ann:={ lp:=[(2,⟨[0,1,5],[],[],[]⟩)],rt:=⟨[4],[],[],[]⟩ }
def lX:Ann:={ jn:=[(5,(44,13,44))],lp:=[(3,⟨[0,1,5,6],[],[0,5],[]⟩)] }
def lE:Ann:={ ot:=[(7,.one 1 (.one 2 (.one 3 (.one 8 (.alt (.one 0 (.alt (.one 4 (.one 5 (.one 6 (.one 7 (.one 9 (.one 10 (.done))))))) (.one 5 (.alt (.one 4 (.one 6 (.one 7 (.one 9 (.one 10 (.done)))))) (.one 6 (.one 4 (.one 7 (.one 9 (.one 10 (.done)))))))))) (.one 5 (.alt (.one 0 (.alt (.one 4 (.one 6 (.one 7 (.one 9 (.one 10 (.done)))))) (.one 6 (.one 4 (.one 7 (.one 9 (.one 10 (.done)))))))) (.one 6 (.one 0 (.one 4 (.one 7 (.one 9 (.one 10 (.done))))))))))))))],jn:=[(2,(22,9,22)),(5,(39,28,39))],lp:=[(2,⟨[0,3,6],[.s 3 0],[0,3,6],[.s 3 0]⟩)],sh:=[.z 2,.n] }
def rH:Ann:={}
def lC:Ann:={ lp:=[(3,⟨[0,3,4],[],[3],[]⟩)] }
def sQ:Ann:={}
def kP:Ann:={ lp:=[(2,⟨[0,1,7,8],[],[],[]⟩)],rt:=⟨[4],[],[],[]⟩ }
def uk:Ann:={ jn:=[(1,(2,3,11))] }
def sv:Ann:={}
def uf:Ann:={}
def qb:Ann:={ sh:=[.z 3] }
def um:Ann:={ ak:=[0],ac:=[(0,0)] }
def tD:Ann:={}
def vF:Ann:={}
def uj:Ann:={}
def rY:Ann:={}
def kF:Ann:={ lp:=[(2,⟨[0,1,7,8],[],[],[]⟩)],rt:=⟨[4],[],[],[]⟩ }
def qI:Ann:={ jn:=[(1,(3,4,21))] }
def pX:Ann:={ ac:=[(2,0),(3,0)],sh:=[.z 1] }
def mp:Ann:={ ot:=[(6,.one 1 (.one 2 (.one 3 (.one 5 (.one 8 (.one 9 (.one 10 (.alt (.one 0 (.alt (.one 4 (.one 6 (.one 7 (.one 11 (.one 12 (.done)))))) (.one 6 (.one 4 (.one 7 (.one 11 (.one 12 (.done)))))))) (.one 6 (.one 0 (.one 4 (.one 7 (.one 11 (.one 12 (.done)))))))))))))))],jn:=[(2,(17,6,17)),(4,(31,20,31))],lp:=[(2,⟨[0,1,5],[],[0,1,5],[]⟩)],sh:=[.z 1] }
def my:Ann:={ lp:=[(2,⟨[0,1,7,8],[],[],[]⟩)],rt:=⟨[4],[],[],[]⟩ }
def bo:Ann:={ ak:=[0],ac:=[(3,0),(6,0)],lp:=[(2,⟨[0,1,2,6,7,8],[.s 0 3],[0,1,2,6,7],[.s 0 3]⟩),(7,⟨[0,1,2,6],[.s 0 3],[0],[.s 0 3]⟩),(9,⟨[0,1,2,6,7,8],[.s 0 3],[0,1,2,6,7],[.s 0 3]⟩)] }
def vG:Ann:={}
def vv:Ann:={}
def fg:Ann:={ lp:=[(3,⟨[0,3,9,10,11],[],[0,3],[]⟩),(11,⟨[6,25,26,27],[.s 6 1],[6],[.s 6 1]⟩)],sh:=[.z 1] }
def eC:Ann:={ ak:=[0],jn:=[(4,(34,18,34))],lp:=[(1,⟨[0,1,2,3,8],[.s 0 3],[0],[.s 0 3]⟩),(4,⟨[0,1,2,3,8,9],[.s 0 3],[0,1,2,3,8],[.s 0 3]⟩)] }
noncomputable def T:Tld:={ P:=prog,ann:=[(3,An3),(4,An4),(5,An5),(6,An6),(7,An7),(8,An8),(9,An9),(10,tq),(11,ww),(12,yQ),(13,pE),(14,Qca),(15,Qce),(17,QgM),(18,QgG),(19,QcI),(21,y7),(22,yV),(23,Qar),(24,QcS),(25,QcP),(26,xS),(27,Qf2),(28,xL),(29,xD),(30,yg),(31,yM),(32,za),(33,QgC),(34,Qfv),(35,Qcy),(36,QdL),(37,y0),(38,Qge),(39,yp),(40,Qb8),(41,Qdf),(42,Qgq),(43,Qeu),(44,Qeq),(45,Qe8),(47,QgL),(48,wj),(49,Qeh),(50,QeG),(51,Qck),(52,Qfh),(53,QeE),(54,yO),(55,wG),(56,Qgy),(57,Qaj),(58,Qgp),(62,Qfk),(63,Qd3),(64,zD),(65,Qgz),(66,Qgm),(67,Qe6),(68,QeF),(69,QdR),(70,Qfq),(71,Qd4),(72,QdY),(73,Qdl),(74,Qdj),(75,Qe9),(76,Qeb),(77,Qgg),(78,wu),(79,Qeg),(80,QdI),(81,QdK),(82,zI),(83,Qdo),(84,Qfm),(85,Qal),(86,xC),(87,QgK),(88,Qc3),(89,ym),(90,QfA),(91,wU),(92,Qfc),(93,Qdr),(94,QeP),(95,QgA),(96,xQ),(97,QfK),(98,Qdk),(99,QfQ),(100,qF),(101,mJ),(102,vH),(103,lD),(104,uR),(105,lq),(106,mL),(107,kW),(108,tv),(109,rb),(110,uU),(111,pV),(112,lZ),(113,uC),(114,ku),(115,un),(116,sq),(117,uh),(121,qg),(123,wd),(124,su),(125,mR),(126,uv),(130,sZ),(131,vS),(132,rG),(133,lN),(134,kH),(135,sd),(136,rz),(137,fH),(138,k0),(140,vK),(141,tj),(142,uq),(143,sj),(144,km),(145,qH),(146,uw),(147,qv),(148,tt),(149,sf),(150,vN),(151,OQ),(152,sJ),(153,pS),(154,uK),(155,lP),(156,vw),(157,lB),(158,pR),(159,qd),(160,gI),(161,pN),(162,l7),(163,kn),(164,lx),(165,kQ),(166,lU),(167,kV),(168,lG),(169,kf),(170,t6),(171,mE),(172,mN),(173,kl),(174,fR),(175,gP),(176,kj),(177,lO),(178,ba),(179,ms),(180,tX),(181,mw),(182,lg),(183,mD),(184,rN),(185,mc),(186,mb),(187,sM),(188,ua),(189,lM),(190,qX),(191,uG),(192,mh),(193,tF),(199,mC),(200,vg),(204,rj),(205,th),(206,mi),(207,fV),(208,kU),(209,aY),(210,kS),(211,W0),(214,mM),(215,tE),(216,qJ),(217,qx),(221,k7),(222,rQ),(223,kK),(224,qp),(225,tu),(226,mV),(227,vE),(228,aX),(229,kr),(230,tO),(231,lS),(232,lA),(233,ta),(234,rc),(235,k9),(236,kz),(237,qN),(238,sV),(239,kE),(240,rl),(241,qq),(242,lh),(243,mo),(244,lI),(245,lX),(246,lE),(247,rH),(248,lC),(255,sQ),(260,kP),(264,uk),(265,sv),(266,uf),(267,qb),(268,um),(269,tD),(270,vF),(271,uj),(272,rY),(274,kF),(275,qI),(276,pX),(277,mp),(288,my),(289,bo),(290,vG),(291,vv),(294,fg),(304,eC)],xt:=xt,st:=λg=>Nat.beq g 273,qt:=λg=>Nat.beq g 295,pz:=[(6,[.a [0,8,3,3,5,4,5,4,0],.n]),(94,[.a [0,8,3,3,5,4,5,4,0]]),(132,[.a [0,8,3,3,5,4,5,4,0]]),(216,[.z 1,.n])],vt:=λg=>Nat.beq g 102||Nat.beq g 110||Nat.beq g 137||Nat.beq g 139||Nat.beq g 212||Nat.beq g 213||Nat.beq g 218,mt:=mt }
def TP:T.P=prog:=Qj
def TZ:T.pz=[(6,[.a [0,8,3,3,5,4,5,4,0],.n]),(94,[.a [0,8,3,3,5,4,5,4,0]]),(132,[.a [0,8,3,3,5,4,5,4,0]]),(216,[.z 1,.n])]:=Qj
def wQ(n:Nat)(args:List AV):CP T n 305 args=none:=by
 cases n with
 |zero=>rfl
 |succ n=>rw[nZ T n 305 args (by kernel_rfl)];first|rfl|(show xt 305 args=none;unfold xt;split<;>first|rfl|(rw[if_neg (by decide)]))
def Qq3:decide ((0:Int)≤33)=true:=Qj
def Qss:decide ((0:Int)≤47)=true:=Qj
def eY:=aI evT<|aI Qmx<|aI @Qon<|aI @We<|@Xy
def eZ:=Qk Zt evT tys Qmx TP TZ<|Qk (@Qh8 T) (@Qmu T) (@QmO T) @wQ Qq3 Qss<|aI @Xy<|@QnY T
def Gb(n:Nat)(s t:List UInt8):CP T (n+1) 16 [.s s,.s t]=(strings_Split s t).map λr=>.own 1 (r.map IW):=by rw[nZ T n 16 _ (by kernel_rfl)];rfl
def EQ(n:Nat){R}{l:List (List UInt8)}(s:List UInt8)[A:QC IW R l]:CP T (n+1) 20 [.imm 1 R,.s s]=(strings_Join l s).map λr=>.s r:=by
 obtain⟨rfl⟩:=A;rw[nZ T n 20 _ (by kernel_rfl)]
 show(Pj (l.map IW)).bind _=_;rw[W4];rfl
def ai(n:Nat)(s t:List UInt8):CP T (n+1) 122 [.s s,.s t]=(strings_Cut s t).map λr=>.tup [.s r.1,.s r.2.1,.b r.2.2]:=by rw[nZ T n 122 _ (by kernel_rfl)];rfl
def Wu(n:Nat)(x:Int):CP T (n+1) 129 [.i .i64 x]=(strconv_Itoa x).map λr=>.s r:=by rw[nZ T n 129 _ (by kernel_rfl)];rfl
def Sb(n:Nat)(x:Int):CP T (n+1) 316 [.nil,.i .i64 x]=(BN x).map λr=>.own 1 (r.map Vn):=by rw[nZ T n 316 _ (by kernel_rfl)];rfl
def zV(n:Nat){R}{xs:List Qp}(i:Int){V}{ys:List Qp}[A:QC VH R xs][B:QC VH V ys]:CM T (n+1) 139 [some (.lst 4 R),some (.lst 4 V)] [.sl 0,.i .i64 i,.sl 1]=Xi (HL xs i ys 32) (some (.own 4 ((V5 xs i ys).map VH))) ():=by
 rcases A,B with⟨⟨rfl⟩,⟨rfl⟩⟩
 rw[yW T n 139 _ _ (by kernel_rfl)]
 show(if 4=4∧4=4∧Va (xs.map VH)=true∧Va (ys.map VH)=true then Xi (HL (xs.map VH) i (ys.map VH) 32) (some (AV.own 4 (V5 (xs.map VH) i (ys.map VH)))) ()else none)=_
 rw[if_pos ⟨rfl,rfl,PJ xs,PJ ys⟩,dZ,cU]
def xf(n:Nat){R}{xs:List QB}(i:Int){V}{ys:List QB}[A:QC Vx R xs][B:QC Vx V ys]:CM T (n+1) 212 [some (.lst 8 R),some (.lst 8 V)] [.sl 0,.i .i64 i,.sl 1]=Xi (HL xs i ys 64) (some (.own 8 ((V5 xs i ys).map Vx))) ():=by
 rcases A,B with⟨⟨rfl⟩,⟨rfl⟩⟩
 rw[yW T n 212 _ _ (by kernel_rfl)]
 show(if 8=8∧8=8∧Va (xs.map Vx)=true∧Va (ys.map Vx)=true then Xi (HL (xs.map Vx) i (ys.map Vx) 64) (some (AV.own 8 (V5 (xs.map Vx) i (ys.map Vx)))) ()else none)=_
 rw[if_pos ⟨rfl,rfl,UV xs,UV ys⟩,dZ,cU]
def zh(n:Nat){R}{xs:List Qm}(i:Int){V}{ys:List Qm}[A:QC Vy R xs][B:QC Vy V ys]:CM T (n+1) 213 [some (.lst 3 R),some (.lst 3 V)] [.sl 0,.i .i64 i,.sl 1]=Xi (HL xs i ys 40) (some (.own 3 ((V5 xs i ys).map Vy))) ():=by
 rcases A,B with⟨⟨rfl⟩,⟨rfl⟩⟩
 rw[yW T n 213 _ _ (by kernel_rfl)]
 show(if 3=3∧3=3∧Va (xs.map Vy)=true∧Va (ys.map Vy)=true then Xi (HL (xs.map Vy) i (ys.map Vy) 40) (some (AV.own 3 (V5 (xs.map Vy) i (ys.map Vy)))) ()else none)=_
 rw[if_pos ⟨rfl,rfl,NY xs,NY ys⟩,dZ,cU]
def zf(n:Nat){R}{xs:List Qu}(i:Int){V}{ys:List Qu}[A:QC Q1 R xs][B:QC Q1 V ys]:CM T (n+1) 218 [some (.lst 5 R),some (.lst 5 V)] [.sl 0,.i .i64 i,.sl 1]=Xi (HL xs i ys 40) (some (.own 5 ((V5 xs i ys).map Q1))) ():=by
 rcases A,B with⟨⟨rfl⟩,⟨rfl⟩⟩
 rw[yW T n 218 _ _ (by kernel_rfl)]
 show(if 5=5∧5=5∧Va (xs.map Q1)=true∧Va (ys.map Q1)=true then Xi (HL (xs.map Q1) i (ys.map Q1) 40) (some (AV.own 5 (V5 (xs.map Q1) i (ys.map Q1)))) ()else none)=_
 rw[if_pos ⟨rfl,rfl,PP xs,PP ys⟩,dZ,cU]
def Qpn:cI=Vn:=Qj
def Qc2(xs:List Int):GI (xs.map Vn)=some xs:=ju xs
def Qcx:T.st 273=true:=by kernel_rfl
def Qds:T.st 295=false:=by kernel_rfl
def QcT:T.qt 295=true:=by kernel_rfl
def QnM:T.st 12=false:=by kernel_rfl
def Qlw:T.qt 12=false:=by kernel_rfl
def Qhc:T.wt 12=true:=by kernel_rfl
def Qjj:T.vt 12=false:=by kernel_rfl
def QiT:T.st 13=false:=by kernel_rfl
def Qk6:T.qt 13=false:=by kernel_rfl
def Qit:T.wt 13=true:=by kernel_rfl
def Qir:T.vt 13=false:=by kernel_rfl
def QhU:T.st 14=false:=by kernel_rfl
def Qm5:T.qt 14=false:=by kernel_rfl
def Qjl:T.wt 14=true:=by kernel_rfl
def QnB:T.vt 14=false:=by kernel_rfl
def QkN:T.st 15=false:=by kernel_rfl
def QlV:T.qt 15=false:=by kernel_rfl
def Qhv:T.wt 15=true:=by kernel_rfl
def QiI:T.vt 15=false:=by kernel_rfl
def QlY:T.st 35=false:=by kernel_rfl
def Qh2:T.qt 35=false:=by kernel_rfl
def Qjy:T.wt 35=true:=by kernel_rfl
def Qhq:T.vt 35=false:=by kernel_rfl
def QiF:T.st 37=false:=by kernel_rfl
def QnQ:T.qt 37=false:=by kernel_rfl
def QnS:T.wt 37=true:=by kernel_rfl
def QjZ:T.vt 37=false:=by kernel_rfl
def Qh7:T.st 38=false:=by kernel_rfl
def Qm0:T.qt 38=false:=by kernel_rfl
def Qjs:T.wt 38=true:=by kernel_rfl
def Qlz:T.vt 38=false:=by kernel_rfl
def QjF:T.st 41=false:=by kernel_rfl
def Qk1:T.qt 41=false:=by kernel_rfl
def QiN:T.wt 41=true:=by kernel_rfl
def Qjh:T.vt 41=false:=by kernel_rfl
def Qio:T.st 45=false:=by kernel_rfl
def Qnp:T.qt 45=false:=by kernel_rfl
def Qkn:T.wt 45=true:=by kernel_rfl
def QhP:T.vt 45=false:=by kernel_rfl
def Qh1:T.st 93=false:=by kernel_rfl
def Qmr:T.qt 93=false:=by kernel_rfl
def Qnb:T.wt 93=true:=by kernel_rfl
def QmH:T.vt 93=false:=by kernel_rfl
def Qnf:T.st 97=false:=by kernel_rfl
def Qmf:T.qt 97=false:=by kernel_rfl
def QmT:T.wt 97=true:=by kernel_rfl
def QiZ:T.vt 97=false:=by kernel_rfl
def QfI:T.st 100=false:=by kernel_rfl
def Qf8:T.qt 100=false:=by kernel_rfl
def QeU:T.wt 100=true:=by kernel_rfl
def QeY:T.vt 100=false:=by kernel_rfl
def QdB:T.st 102=false:=by kernel_rfl
def Qfi:T.qt 102=false:=by kernel_rfl
def QdV:T.wt 102=false:=by kernel_rfl
def Qgu:T.vt 102=true:=by kernel_rfl
def Qft:T.st 110=false:=by kernel_rfl
def QgP:T.qt 110=false:=by kernel_rfl
def Qed:T.wt 110=false:=by kernel_rfl
def Qef:T.vt 110=true:=by kernel_rfl
def Qfx:T.st 137=false:=by kernel_rfl
def Qes:T.qt 137=false:=by kernel_rfl
def Qb9:T.wt 137=false:=by kernel_rfl
def QfY:T.vt 137=true:=by kernel_rfl
def QgS:T.st 139=false:=by kernel_rfl
def Qc9:T.qt 139=false:=by kernel_rfl
def QeJ:T.wt 139=false:=by kernel_rfl
def QdD:T.vt 139=true:=by kernel_rfl
def QdS:T.st 180=false:=by kernel_rfl
def Qdc:T.qt 180=false:=by kernel_rfl
def QdE:T.wt 180=true:=by kernel_rfl
def QdG:T.vt 180=false:=by kernel_rfl
def QdJ:T.st 185=false:=by kernel_rfl
def Qet:T.qt 185=false:=by kernel_rfl
def Qdp:T.wt 185=true:=by kernel_rfl
def Qdi:T.vt 185=false:=by kernel_rfl
def Qf3:T.st 212=false:=by kernel_rfl
def Qfo:T.qt 212=false:=by kernel_rfl
def QeT:T.wt 212=false:=by kernel_rfl
def Qdq:T.vt 212=true:=by kernel_rfl
def QgE:T.st 213=false:=by kernel_rfl
def QgH:T.qt 213=false:=by kernel_rfl
def QgR:T.wt 213=false:=by kernel_rfl
def Qei:T.vt 213=true:=by kernel_rfl
def QdX:T.st 218=false:=by kernel_rfl
def Qcm:T.qt 218=false:=by kernel_rfl
def Qfe:T.wt 218=false:=by kernel_rfl
def Qcu:T.vt 218=true:=by kernel_rfl
def QeH:T.st 268=false:=by kernel_rfl
def Qcp:T.qt 268=false:=by kernel_rfl
def Qcv:T.wt 268=true:=by kernel_rfl
def Qde:T.vt 268=false:=by kernel_rfl
def Qgd:T.st 289=false:=by kernel_rfl
def Qgc:T.qt 289=false:=by kernel_rfl
def QdC:T.wt 289=true:=by kernel_rfl
def QfG:T.vt 289=false:=by kernel_rfl
def Qey:T.st 304=false:=by kernel_rfl
def Qf6:T.qt 304=false:=by kernel_rfl
def Qfl:T.wt 304=true:=by kernel_rfl
def QcF:T.vt 304=false:=by kernel_rfl
def It:=Qk @Qpn @Qc2 @Qll @Qiw @QhI @Qhs<|Qk @Qcx @Qds @QcT @QnM @Qlw @Qhc<|Qk @Qjj @QiT @Qk6 @Qit @Qir @QhU<|Qk @Qm5 @Qjl @QnB @QkN @QlV @Qhv<|Qk @QiI @QlY @Qh2 @Qjy @Qhq @QiF<|Qk @QnQ @QnS @QjZ @Qh7 @Qm0 @Qjs<|Qk @Qlz @QjF @Qk1 @QiN @Qjh @Qio<|Qk @Qnp @Qkn @QhP @Qh1 @Qmr @Qnb<|Qk @QmH @Qnf @Qmf @QmT @QiZ @QfI<|Qk @Qf8 @QeU @QeY @QdB @Qfi @QdV<|Qk @Qgu @Qft @QgP @Qed @Qef @Qfx<|Qk @Qes @Qb9 @QfY @QgS @Qc9 @QeJ<|Qk @QdD @QdS @Qdc @QdE @QdG @QdJ<|Qk @Qet @Qdp @Qdi @Qf3 @Qfo @QeT<|Qk @Qdq @QgE @QgH @QgR @Qei @QdX<|Qk @Qcm @Qfe @Qcu @QeH @Qcp @Qcv<|Qk @Qde @Qgd @Qgc @QdC @QfG @Qey<|aI @Qf6<|aI @Qfl @QcF
def Aa3:T.at 3=some An3:=by kernel_rfl
def Aa4:T.at 4=some An4:=by kernel_rfl
def Aa5:T.at 5=some An5:=by kernel_rfl
def Aa6:T.at 6=some An6:=by kernel_rfl
def Aa7:T.at 7=some An7:=by kernel_rfl
def Aa8:T.at 8=some An8:=by kernel_rfl
def Aa9:T.at 9=some An9:=by kernel_rfl
def QfO:T.at 10=some tq:=by kernel_rfl
def Qkh:T.at 11=some ww:=by kernel_rfl
def Qlx:T.at 12=some yQ:=by kernel_rfl
def Qd0:T.at 13=some pE:=by kernel_rfl
def Qsc:T.at 14=some Qca:=by kernel_rfl
def Qrc:T.at 15=some Qce:=by kernel_rfl
def Qpl:T.at 17=some QgM:=by kernel_rfl
def Qpt:T.at 18=some QgG:=by kernel_rfl
def QqT:T.at 19=some QcI:=by kernel_rfl
def Qmi:T.at 21=some y7:=by kernel_rfl
def Qld:T.at 22=some yV:=by kernel_rfl
def Qi6:T.at 23=some Qar:=by kernel_rfl
def QrC:T.at 24=some QcS:=by kernel_rfl
def Qqx:T.at 25=some QcP:=by kernel_rfl
def Qnc:T.at 26=some xS:=by kernel_rfl
def QsS:T.at 27=some Qf2:=by kernel_rfl
def QmV:T.at 28=some xL:=by kernel_rfl
def Qi5:T.at 29=some xD:=by kernel_rfl
def QlH:T.at 30=some yg:=by kernel_rfl
def Qnk:T.at 31=some yM:=by kernel_rfl
def QiS:T.at 32=some za:=by kernel_rfl
def Qsp:T.at 33=some QgC:=by kernel_rfl
def QqB:T.at 34=some Qfv:=by kernel_rfl
def Qsk:T.at 35=some Qcy:=by kernel_rfl
def Qrj:T.at 36=some QdL:=by kernel_rfl
def Qhk:T.at 37=some y0:=by kernel_rfl
def Qpr:T.at 38=some Qge:=by kernel_rfl
def QmQ:T.at 39=some yp:=by kernel_rfl
def Qog:T.at 40=some Qb8:=by kernel_rfl
def Qr2:T.at 41=some Qdf:=by kernel_rfl
def Qpz:T.at 42=some Qgq:=by kernel_rfl
def Qok:T.at 43=some Qeu:=by kernel_rfl
def QrU:T.at 44=some Qeq:=by kernel_rfl
def QrL:T.at 45=some Qe8:=by kernel_rfl
def QsH:T.at 47=some QgL:=by kernel_rfl
def Qku:T.at 48=some wj:=by kernel_rfl
def QoC:T.at 49=some Qeh:=by kernel_rfl
def Qpm:T.at 50=some QeG:=by kernel_rfl
def QoI:T.at 51=some Qck:=by kernel_rfl
def QsV:T.at 52=some Qfh:=by kernel_rfl
def QrF:T.at 53=some QeE:=by kernel_rfl
def Qly:T.at 54=some yO:=by kernel_rfl
def Qjk:T.at 55=some wG:=by kernel_rfl
def QoJ:T.at 56=some Qgy:=by kernel_rfl
def Qlr:T.at 57=some Qaj:=by kernel_rfl
def Qr1:T.at 58=some Qgp:=by kernel_rfl
def Qsq:T.at 62=some Qfk:=by kernel_rfl
def Qs5:T.at 63=some Qd3:=by kernel_rfl
def Qje:T.at 64=some zD:=by kernel_rfl
def Qry:T.at 65=some Qgz:=by kernel_rfl
def Qoz:T.at 66=some Qgm:=by kernel_rfl
def Qsj:T.at 67=some Qe6:=by kernel_rfl
def QpU:T.at 68=some QeF:=by kernel_rfl
def QqH:T.at 69=some QdR:=by kernel_rfl
def QsJ:T.at 70=some Qfq:=by kernel_rfl
def QpK:T.at 71=some Qd4:=by kernel_rfl
def Qpd:T.at 72=some QdY:=by kernel_rfl
def Qq4:T.at 73=some Qdl:=by kernel_rfl
def Qs4:T.at 74=some Qdj:=by kernel_rfl
def Qsm:T.at 75=some Qe9:=by kernel_rfl
def QsT:T.at 76=some Qeb:=by kernel_rfl
def QsD:T.at 77=some Qgg:=by kernel_rfl
def Qlm:T.at 78=some wu:=by kernel_rfl
def Qqf:T.at 79=some Qeg:=by kernel_rfl
def QsF:T.at 80=some QdI:=by kernel_rfl
def Qsw:T.at 81=some QdK:=by kernel_rfl
def QmZ:T.at 82=some zI:=by kernel_rfl
def QrP:T.at 83=some Qdo:=by kernel_rfl
def QqC:T.at 84=some Qfm:=by kernel_rfl
def QgY:T.at 85=some Qal:=by kernel_rfl
def Qng:T.at 86=some xC:=by kernel_rfl
def Qpx:T.at 87=some QgK:=by kernel_rfl
def Qo4:T.at 88=some Qc3:=by kernel_rfl
def QlJ:T.at 89=some ym:=by kernel_rfl
def Qod:T.at 90=some QfA:=by kernel_rfl
def QnL:T.at 91=some wU:=by kernel_rfl
def QsZ:T.at 92=some Qfc:=by kernel_rfl
def QoE:T.at 93=some Qdr:=by kernel_rfl
def QsX:T.at 94=some QeP:=by kernel_rfl
def Qp5:T.at 95=some QgA:=by kernel_rfl
def Ql4:T.at 96=some xQ:=by kernel_rfl
def Qsz:T.at 97=some QfK:=by kernel_rfl
def Qoy:T.at 98=some Qdk:=by kernel_rfl
def Qpp:T.at 99=some QfQ:=by kernel_rfl
def QnD:T.at 100=some qF:=by kernel_rfl
def QbV:T.at 101=some mJ:=by kernel_rfl
def Qm9:T.at 102=some vH:=by kernel_rfl
def QbS:T.at 103=some lD:=by kernel_rfl
def Qho:T.at 104=some uR:=by kernel_rfl
def QaR:T.at 105=some lq:=by kernel_rfl
def Qbu:T.at 106=some mL:=by kernel_rfl
def QaV:T.at 107=some kW:=by kernel_rfl
def QjU:T.at 108=some tv:=by kernel_rfl
def Qky:T.at 109=some rb:=by kernel_rfl
def Qin:T.at 110=some uU:=by kernel_rfl
def Qhr:T.at 111=some pV:=by kernel_rfl
def QaF:T.at 112=some lZ:=by kernel_rfl
def Qkt:T.at 113=some uC:=by kernel_rfl
def Qby:T.at 114=some ku:=by kernel_rfl
def QiR:T.at 115=some un:=by kernel_rfl
def Qm2:T.at 116=some sq:=by kernel_rfl
def QjW:T.at 117=some uh:=by kernel_rfl
def QmK:T.at 121=some qg:=by kernel_rfl
def Qnm:T.at 123=some wd:=by kernel_rfl
def Qnq:T.at 124=some su:=by kernel_rfl
def Qbv:T.at 125=some mR:=by kernel_rfl
def Qmh:T.at 126=some uv:=by kernel_rfl
def QjC:T.at 130=some sZ:=by kernel_rfl
def QmN:T.at 131=some vS:=by kernel_rfl
def Qlk:T.at 132=some rG:=by kernel_rfl
def Qa6:T.at 133=some lN:=by kernel_rfl
def QbH:T.at 134=some kH:=by kernel_rfl
def QnR:T.at 135=some sd:=by kernel_rfl
def QhG:T.at 136=some rz:=by kernel_rfl
def so:T.at 137=some fH:=by kernel_rfl
def Qbn:T.at 138=some k0:=by kernel_rfl
def Qli:T.at 140=some vK:=by kernel_rfl
def Qg3:T.at 141=some tj:=by kernel_rfl
def QkQ:T.at 142=some uq:=by kernel_rfl
def Qj9:T.at 143=some sj:=by kernel_rfl
def QbR:T.at 144=some km:=by kernel_rfl
def QiM:T.at 145=some qH:=by kernel_rfl
def QhO:T.at 146=some uw:=by kernel_rfl
def QjT:T.at 147=some qv:=by kernel_rfl
def Qj0:T.at 148=some tt:=by kernel_rfl
def QmM:T.at 149=some sf:=by kernel_rfl
def Qkx:T.at 150=some vN:=by kernel_rfl
def TD:T.at 151=some OQ:=by kernel_rfl
def Qmg:T.at 152=some sJ:=by kernel_rfl
def QhB:T.at 153=some pS:=by kernel_rfl
def QnF:T.at 154=some uK:=by kernel_rfl
def Qbh:T.at 155=some lP:=by kernel_rfl
def Qhz:T.at 156=some vw:=by kernel_rfl
def Qbk:T.at 157=some lB:=by kernel_rfl
def QhK:T.at 158=some pR:=by kernel_rfl
def Qil:T.at 159=some qd:=by kernel_rfl
def rU:T.at 160=some gI:=by kernel_rfl
def QkL:T.at 161=some pN:=by kernel_rfl
def QaT:T.at 162=some l7:=by kernel_rfl
def QaS:T.at 163=some kn:=by kernel_rfl
def Qa9:T.at 164=some lx:=by kernel_rfl
def QbG:T.at 165=some kQ:=by kernel_rfl
def Qa1:T.at 166=some lU:=by kernel_rfl
def Qav:T.at 167=some kV:=by kernel_rfl
def Qa7:T.at 168=some lG:=by kernel_rfl
def QaW:T.at 169=some kf:=by kernel_rfl
def Qk8:T.at 170=some t6:=by kernel_rfl
def QaY:T.at 171=some mE:=by kernel_rfl
def Qb0:T.at 172=some mN:=by kernel_rfl
def Qbz:T.at 173=some kl:=by kernel_rfl
def pI:T.at 174=some fR:=by kernel_rfl
def tG:T.at 175=some gP:=by kernel_rfl
def QbN:T.at 176=some kj:=by kernel_rfl
def Qbj:T.at 177=some lO:=by kernel_rfl
def l8:T.at 178=some ba:=by kernel_rfl
def Qb3:T.at 179=some ms:=by kernel_rfl
def Qix:T.at 180=some tX:=by kernel_rfl
def Qbg:T.at 181=some mw:=by kernel_rfl
def QbJ:T.at 182=some lg:=by kernel_rfl
def QaE:T.at 183=some mD:=by kernel_rfl
def QkB:T.at 184=some rN:=by kernel_rfl
def QaC:T.at 185=some mc:=by kernel_rfl
def QbX:T.at 186=some mb:=by kernel_rfl
def Qju:T.at 187=some sM:=by kernel_rfl
def Qhb:T.at 188=some ua:=by kernel_rfl
def QaX:T.at 189=some lM:=by kernel_rfl
def QkG:T.at 190=some qX:=by kernel_rfl
def Qnz:T.at 191=some uG:=by kernel_rfl
def QbT:T.at 192=some mh:=by kernel_rfl
def QiQ:T.at 193=some tF:=by kernel_rfl
def QbQ:T.at 199=some mC:=by kernel_rfl
def QjH:T.at 200=some vg:=by kernel_rfl
def Qhh:T.at 204=some rj:=by kernel_rfl
def QkR:T.at 205=some th:=by kernel_rfl
def Qbw:T.at 206=some mi:=by kernel_rfl
def sN:T.at 207=some fV:=by kernel_rfl
def QbC:T.at 208=some kU:=by kernel_rfl
def kw:T.at 209=some aY:=by kernel_rfl
def QaK:T.at 210=some kS:=by kernel_rfl
def ib:T.at 211=some W0:=by kernel_rfl
def QbZ:T.at 214=some mM:=by kernel_rfl
def Qiu:T.at 215=some tE:=by kernel_rfl
def QnG:T.at 216=some qJ:=by kernel_rfl
def Qhd:T.at 217=some qx:=by kernel_rfl
def Qb4:T.at 221=some k7:=by kernel_rfl
def QkS:T.at 222=some rQ:=by kernel_rfl
def Qba:T.at 223=some kK:=by kernel_rfl
def QlI:T.at 224=some qp:=by kernel_rfl
def Qk3:T.at 225=some tu:=by kernel_rfl
def QbE:T.at 226=some mV:=by kernel_rfl
def Qms:T.at 227=some vE:=by kernel_rfl
def kJ:T.at 228=some aX:=by kernel_rfl
def QaQ:T.at 229=some kr:=by kernel_rfl
def QiJ:T.at 230=some tO:=by kernel_rfl
def Qbf:T.at 231=some lS:=by kernel_rfl
def Qb2:T.at 232=some lA:=by kernel_rfl
def Ql0:T.at 233=some ta:=by kernel_rfl
def QgX:T.at 234=some rc:=by kernel_rfl
def QaH:T.at 235=some k9:=by kernel_rfl
def QbW:T.at 236=some kz:=by kernel_rfl
def QkJ:T.at 237=some qN:=by kernel_rfl
def Qh6:T.at 238=some sV:=by kernel_rfl
def QbK:T.at 239=some kE:=by kernel_rfl
def Qh4:T.at 240=some rl:=by kernel_rfl
def Qiz:T.at 241=some qq:=by kernel_rfl
def Qb6:T.at 242=some lh:=by kernel_rfl
def QbM:T.at 243=some mo:=by kernel_rfl
def Qbs:T.at 244=some lI:=by kernel_rfl
def QaU:T.at 245=some lX:=by kernel_rfl
def Qax:T.at 246=some lE:=by kernel_rfl
def QmL:T.at 247=some rH:=by kernel_rfl
def QbO:T.at 248=some lC:=by kernel_rfl
def Qmk:T.at 255=some sQ:=by kernel_rfl
def Qau:T.at 260=some kP:=by kernel_rfl
def Qjm:T.at 264=some uk:=by kernel_rfl
def Qmo:T.at 265=some sv:=by kernel_rfl
def QlL:T.at 266=some uf:=by kernel_rfl
def QjI:T.at 267=some qb:=by kernel_rfl
def Qjd:T.at 268=some um:=by kernel_rfl
def Qne:T.at 269=some tD:=by kernel_rfl
def QlT:T.at 270=some vF:=by kernel_rfl
def QmA:T.at 271=some uj:=by kernel_rfl
def Qhu:T.at 272=some rY:=by kernel_rfl
def Qa4:T.at 274=some kF:=by kernel_rfl
def Qhm:T.at 275=some qI:=by kernel_rfl
def Qg2:T.at 276=some pX:=by kernel_rfl
def QaZ:T.at 277=some mp:=by kernel_rfl
def Qbr:T.at 288=some my:=by kernel_rfl
def mn:T.at 289=some bo:=by kernel_rfl
def Qkq:T.at 290=some vG:=by kernel_rfl
def QiK:T.at 291=some vv:=by kernel_rfl
def rJ:T.at 294=some fg:=by kernel_rfl
def qC:T.at 304=some eC:=by kernel_rfl
end Go.Proofs.YtfhnbabcbhgffaaGreatDoor
