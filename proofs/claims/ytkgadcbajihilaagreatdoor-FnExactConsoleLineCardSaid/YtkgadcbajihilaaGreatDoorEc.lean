import Derived.Test.YtkgadcbajihilaaGreatDoorEvB
import Derived.Test.YtkgadcbajihilaaGreatDoorFn
import Derived.Test.YtkgadcbajihilaaGreatDoorProg
import Derived.KernelRfl
set_option maxHeartbeats 4000000
set_option linter.unusedVariables false
set_option linter.unusedSimpArgs false
set_option linter.defProp false
set_option maxRecDepth 100000
namespace Go.Proofs.YtkgadcbajihilaaGreatDoor
open Go Go.Proofs Go.Proofs.YtkgadcbajihilaaGreatDoor.Am Tryz
def Q9(x:Int):List AV:=[.i .i64 x]
def gZ(x:Int):Q9 x=[.i .i64 x]:=Qj
instance(x:Int):QD Q9 [.i .i64 x] x:=⟨rfl⟩
def uY(xs:List Int):Vf (xs.map Q9)=xs.map Q9:=D7 (λx=>by simp only[gZ,Xk,XC]) xs
def uG(xs:List Int):Vd (xs.map Q9)=true:=Bd (λx=>by simp only[gZ,XP,AV.clean,Bool.and_self]) xs
def Qiu{R:List (List AV)}{xs:List Int}(i:Int)[h:QC Q9 R xs]:Q1 R i=Q1 xs i:=by rw[h.eq,eH]
def Qjm{R:List (List AV)}{xs:List Int}(i:Int)[h:QC Q9 R xs](hi:Q1 xs i=true):VI R i.toNat=Q9 (gt xs i):=by rw[h.eq,fE xs i hi]
def ko(x:Int):List AV:=[.i .u8 x]
def mG(x:Int):ko x=[.i .u8 x]:=Qj
instance(x:Int):QD ko [.i .u8 x] x:=⟨rfl⟩
def QlJ(xs:List Int):Vf (xs.map ko)=xs.map ko:=D7 (λx=>by simp only[mG,Xk,XC]) xs
def QsR(xs:List Int):Vd (xs.map ko)=true:=Bd (λx=>by simp only[mG,XP,AV.clean,Bool.and_self]) xs
def Qmh{R:List (List AV)}{xs:List Int}(i:Int)[h:QC ko R xs]:Q1 R i=Q1 xs i:=by rw[h.eq,eH]
def Qoo{R:List (List AV)}{xs:List Int}(i:Int)[h:QC ko R xs](hi:Q1 xs i=true):VI R i.toNat=ko (gt xs i):=by rw[h.eq,fE xs i hi]
def sH(x:Bool):List AV:=[.b x]
def xz(x:Bool):sH x=[.b x]:=Qj
instance(x:Bool):QD sH [.b x] x:=⟨rfl⟩
def QwV(xs:List Bool):Vf (xs.map sH)=xs.map sH:=D7 (λx=>by simp only[xz,Xk,XC]) xs
def Qyi(xs:List Bool):Vd (xs.map sH)=true:=Bd (λx=>by simp only[xz,XP,AV.clean,Bool.and_self]) xs
def Qx7{R:List (List AV)}{xs:List Bool}(i:Int)[h:QC sH R xs]:Q1 R i=Q1 xs i:=by rw[h.eq,eH]
def QuR{R:List (List AV)}{xs:List Bool}(i:Int)[h:QC sH R xs](hi:Q1 xs i=true):VI R i.toNat=sH (gt xs i):=by rw[h.eq,fE xs i hi]
def Ij(x:List UInt8):List AV:=[.s x]
def jJ(x:List UInt8):Ij x=[.s x]:=Qj
instance(x:List UInt8):QD Ij [.s x] x:=⟨rfl⟩
def Qwl(xs:List (List UInt8)):Vf (xs.map Ij)=xs.map Ij:=D7 (λx=>by simp only[jJ,Xk,XC]) xs
def QtZ(xs:List (List UInt8)):Vd (xs.map Ij)=true:=Bd (λx=>by simp only[jJ,XP,AV.clean,Bool.and_self]) xs
def Quj{R:List (List AV)}{xs:List (List UInt8)}(i:Int)[h:QC Ij R xs]:Q1 R i=Q1 xs i:=by rw[h.eq,eH]
def Qvj{R:List (List AV)}{xs:List (List UInt8)}(i:Int)[h:QC Ij R xs](hi:Q1 xs i=true):VI R i.toNat=Ij (gt xs i):=by rw[h.eq,fE xs i hi]
def CW(x:Qo):List AV:=[.i .i64 x.Id,.i .i64 x.Kind,.i .i64 x.Colour,.i .i64 x.Size,.i .i64 x.Worth]
def bE(x:Qo):CW x=[.i .i64 x.Id,.i .i64 x.Kind,.i .i64 x.Colour,.i .i64 x.Size,.i .i64 x.Worth]:=Qj
instance(yxId yxKind yxColour yxSize yxWorth)  : QD CW [.i .i64 yxId,.i .i64 yxKind,.i .i64 yxColour,.i .i64 yxSize,.i .i64 yxWorth] (⟨yxId,yxKind,yxColour,yxSize,yxWorth⟩:Qo):=⟨by rfl⟩
def zO(xs:List Qo):Vf (xs.map CW)=xs.map CW:=D7 (λx=>by simp only[bE,Xk,XC]) xs
def yd(xs:List Qo):Vd (xs.map CW)=true:=Bd (λx=>by simp only[bE,XP,AV.clean,Bool.and_self]) xs
def vd(x:Qo):(⟨x.Id,x.Kind,x.Colour,x.Size,x.Worth⟩:Qo)=x:=Qj
def Vn(x:QB):List AV:=[.i .i64 x.Qo.Id,.i .i64 x.Qo.Kind,.i .i64 x.Qo.Colour,.i .i64 x.Qo.Size,.i .i64 x.Qo.Worth,.i .i64 x.Place,.i .i64 x.At,.i .i64 x.Qz]
def gm(x:QB):Vn x=[.i .i64 x.Qo.Id,.i .i64 x.Qo.Kind,.i .i64 x.Qo.Colour,.i .i64 x.Qo.Size,.i .i64 x.Qo.Worth,.i .i64 x.Place,.i .i64 x.At,.i .i64 x.Qz]:=Qj
instance(yxThingxId yxThingxKind yxThingxColour yxThingxSize yxThingxWorth yxPlace yxAt yxFinder)  : QD Vn [.i .i64 yxThingxId,.i .i64 yxThingxKind,.i .i64 yxThingxColour,.i .i64 yxThingxSize,.i .i64 yxThingxWorth,.i .i64 yxPlace,.i .i64 yxAt,.i .i64 yxFinder] (⟨⟨yxThingxId,yxThingxKind,yxThingxColour,yxThingxSize,yxThingxWorth⟩,yxPlace,yxAt,yxFinder⟩:QB):=⟨by rfl⟩
def rk(xs:List QB):Vf (xs.map Vn)=xs.map Vn:=D7 (λx=>by simp only[gm,Xk,XC]) xs
def Y0(xs:List QB):Vd (xs.map Vn)=true:=Bd (λx=>by simp only[gm,XP,AV.clean,Bool.and_self]) xs
def Qcx(x:QB):(⟨x.Qo,x.Place,x.At,x.Qz⟩:QB)=x:=Qj
def Xb(x:Mark):List AV:=[.i .i64 x.Question,.i .i64 x.Answer]
def gQ(x:Mark):Xb x=[.i .i64 x.Question,.i .i64 x.Answer]:=Qj
instance(yxQuestion yxAnswer)  : QD Xb [.i .i64 yxQuestion,.i .i64 yxAnswer] (⟨yxQuestion,yxAnswer⟩:Mark):=⟨by rfl⟩
def ii(xs:List Mark):Vf (xs.map Xb)=xs.map Xb:=D7 (λx=>by simp only[gQ,Xk,XC]) xs
def io(xs:List Mark):Vd (xs.map Xb)=true:=Bd (λx=>by simp only[gQ,XP,AV.clean,Bool.and_self]) xs
def QdS(x:Mark):(⟨x.Question,x.Answer⟩:Mark)=x:=Qj
def VC(x:Qm):List AV:=[.i .i64 x.Qo,.imm 2 (x.Marks.map Xb),.i .i64 x.Salt]
def eP(x:Qm):VC x=[.i .i64 x.Qo,.imm 2 (x.Marks.map Xb),.i .i64 x.Salt]:=Qj
instance(yxThing yxSalt){R1 yxMarks}[H1:QC Xb R1 yxMarks]:QD VC [.i .i64 yxThing,.imm 2 R1,.i .i64 yxSalt] (⟨yxThing,yxMarks,yxSalt⟩:Qm):=⟨by obtain⟨rfl⟩:=H1;rfl⟩
def VF(x:Qm):List AV:=[.i .i64 x.Qo,.own 2 (x.Marks.map Xb),.i .i64 x.Salt]
def P8(x:Qm):VF x=[.i .i64 x.Qo,.own 2 (x.Marks.map Xb),.i .i64 x.Salt]:=Qj
instance(yxThing yxSalt){R1 yxMarks}[H1:QC Xb R1 yxMarks]:QD VF [.i .i64 yxThing,.own 2 R1,.i .i64 yxSalt] (⟨yxThing,yxMarks,yxSalt⟩:Qm):=⟨by obtain⟨rfl⟩:=H1;rfl⟩
def e8(xs:List Qm):Vf (xs.map VF)=xs.map VC:=D7 (λx=>by simp only[P8,eP,Xk,XC,ii]) xs
def OB(xs:List Qm):Vd (xs.map VF)=true:=Bd (λx=>by simp only[P8,XP,AV.clean,Bool.and_self,io]) xs
def tn(x:Qm):(⟨x.Qo,x.Marks,x.Salt⟩:Qm)=x:=Qj
def QZ(x:Qu):List AV:=[.i .i64 x.Id,.i .i64 x.QA,.i .i64 x.Qo,.i .i64 x.At,.i .i64 x.State]
def aK(x:Qu):QZ x=[.i .i64 x.Id,.i .i64 x.QA,.i .i64 x.Qo,.i .i64 x.At,.i .i64 x.State]:=Qj
instance(yxId yxWho yxThing yxAt yxState)  : QD QZ [.i .i64 yxId,.i .i64 yxWho,.i .i64 yxThing,.i .i64 yxAt,.i .i64 yxState] (⟨yxId,yxWho,yxThing,yxAt,yxState⟩:Qu):=⟨by rfl⟩
def j8(xs:List Qu):Vf (xs.map QZ)=xs.map QZ:=D7 (λx=>by simp only[aK,Xk,XC]) xs
def SP(xs:List Qu):Vd (xs.map QZ)=true:=Bd (λx=>by simp only[aK,XP,AV.clean,Bool.and_self]) xs
def uA(x:Qu):(⟨x.Id,x.QA,x.Qo,x.At,x.State⟩:Qu)=x:=Qj
def Vq(x:Qp):List AV:=[.i .i64 x.Qu,.i .i64 x.Asked,.i .i64 x.Right,.i .i64 x.Wrong]
def Y9(x:Qp):Vq x=[.i .i64 x.Qu,.i .i64 x.Asked,.i .i64 x.Right,.i .i64 x.Wrong]:=Qj
instance(yxClaim yxAsked yxRight yxWrong)  : QD Vq [.i .i64 yxClaim,.i .i64 yxAsked,.i .i64 yxRight,.i .i64 yxWrong] (⟨yxClaim,yxAsked,yxRight,yxWrong⟩:Qp):=⟨by rfl⟩
def ll(xs:List Qp):Vf (xs.map Vq)=xs.map Vq:=D7 (λx=>by simp only[Y9,Xk,XC]) xs
def SY(xs:List Qp):Vd (xs.map Vq)=true:=Bd (λx=>by simp only[Y9,XP,AV.clean,Bool.and_self]) xs
def wH(x:Qp):(⟨x.Qu,x.Asked,x.Right,x.Wrong⟩:Qp)=x:=Qj
def VA(x:Qr):List AV:=[.i .i64 x.Id,.i .i64 x.Size,.i .i64 x.Qo]
def iI(x:Qr):VA x=[.i .i64 x.Id,.i .i64 x.Size,.i .i64 x.Qo]:=Qj
instance(yxId yxSize yxThing)  : QD VA [.i .i64 yxId,.i .i64 yxSize,.i .i64 yxThing] (⟨yxId,yxSize,yxThing⟩:Qr):=⟨by rfl⟩
def qT(xs:List Qr):Vf (xs.map VA)=xs.map VA:=D7 (λx=>by simp only[iI,Xk,XC]) xs
def oZ(xs:List Qr):Vd (xs.map VA)=true:=Bd (λx=>by simp only[iI,XP,AV.clean,Bool.and_self]) xs
def Qbl(x:Qr):(⟨x.Id,x.Size,x.Qo⟩:Qr)=x:=Qj
def Vv(x:Hand):List AV:=[.i .i64 x.Qo,.i .i64 x.Qx,.i .i64 x.QA,.i .i64 x.At,.i .i64 x.Seal]
def gq(x:Hand):Vv x=[.i .i64 x.Qo,.i .i64 x.Qx,.i .i64 x.QA,.i .i64 x.At,.i .i64 x.Seal]:=Qj
instance(yxThing yxHolder yxWho yxAt yxSeal)  : QD Vv [.i .i64 yxThing,.i .i64 yxHolder,.i .i64 yxWho,.i .i64 yxAt,.i .i64 yxSeal] (⟨yxThing,yxHolder,yxWho,yxAt,yxSeal⟩:Hand):=⟨by rfl⟩
def pg(xs:List Hand):Vf (xs.map Vv)=xs.map Vv:=D7 (λx=>by simp only[gq,Xk,XC]) xs
def pq(xs:List Hand):Vd (xs.map Vv)=true:=Bd (λx=>by simp only[gq,XP,AV.clean,Bool.and_self]) xs
def Qbo(x:Hand):(⟨x.Qo,x.Qx,x.QA,x.At,x.Seal⟩:Hand)=x:=Qj
def Vx(x:Entry):List AV:=[.i .i64 x.From,.i .i64 x.To,.i .i64 x.Qy,.i .i64 x.At]
def bN(x:Entry):Vx x=[.i .i64 x.From,.i .i64 x.To,.i .i64 x.Qy,.i .i64 x.At]:=Qj
instance(yxFrom yxTo yxCents yxAt)  : QD Vx [.i .i64 yxFrom,.i .i64 yxTo,.i .i64 yxCents,.i .i64 yxAt] (⟨yxFrom,yxTo,yxCents,yxAt⟩:Entry):=⟨by rfl⟩
def kZ(xs:List Entry):Vf (xs.map Vx)=xs.map Vx:=D7 (λx=>by simp only[bN,Xk,XC]) xs
def lN(xs:List Entry):Vd (xs.map Vx)=true:=Bd (λx=>by simp only[bN,XP,AV.clean,Bool.and_self]) xs
def vD(x:Entry):(⟨x.From,x.To,x.Qy,x.At⟩:Entry)=x:=Qj
def Va(x:Ql):List AV:=[.i .i64 x.No,.imm 8 (x.Qt.map Vn),.imm 3 (x.Qn.map VC),.imm 3 (x.Qs.map VA),.imm 5 (x.Qv.map QZ),.imm 4 (x.Qq.map Vq),.imm 5 (x.Qw.map Vv),.imm 4 (x.Book.map Vx),.i .i64 x.Now]
def lC(x:Ql):Va x=[.i .i64 x.No,.imm 8 (x.Qt.map Vn),.imm 3 (x.Qn.map VC),.imm 3 (x.Qs.map VA),.imm 5 (x.Qv.map QZ),.imm 4 (x.Qq.map Vq),.imm 5 (x.Qw.map Vv),.imm 4 (x.Book.map Vx),.i .i64 x.Now]:=Qj
instance(yxNo yxNow){R1 yxFinds R2 yxSecrets R3 yxSlots R4 yxClaims R5 yxTrials R6 yxChain R7 yxBook}[H1:QC Vn R1 yxFinds][H2:QC VC R2 yxSecrets][H3:QC VA R3 yxSlots][H4:QC QZ R4 yxClaims][H5:QC Vq R5 yxTrials][H6:QC Vv R6 yxChain][H7:QC Vx R7 yxBook]:QD Va [.i .i64 yxNo,.imm 8 R1,.imm 3 R2,.imm 3 R3,.imm 5 R4,.imm 4 R5,.imm 5 R6,.imm 4 R7,.i .i64 yxNow] (⟨yxNo,yxFinds,yxSecrets,yxSlots,yxClaims,yxTrials,yxChain,yxBook,yxNow⟩:Ql):=⟨by obtain⟨rfl⟩:=H1;obtain⟨rfl⟩:=H2;obtain⟨rfl⟩:=H3;obtain⟨rfl⟩:=H4;obtain⟨rfl⟩:=H5;obtain⟨rfl⟩:=H6;obtain⟨rfl⟩:=H7;rfl⟩
def Xi(x:Ql):List AV:=[.i .i64 x.No,.own 8 (x.Qt.map Vn),.own 3 (x.Qn.map VF),.own 3 (x.Qs.map VA),.own 5 (x.Qv.map QZ),.own 4 (x.Qq.map Vq),.own 5 (x.Qw.map Vv),.own 4 (x.Book.map Vx),.i .i64 x.Now]
def Us(x:Ql):Xi x=[.i .i64 x.No,.own 8 (x.Qt.map Vn),.own 3 (x.Qn.map VF),.own 3 (x.Qs.map VA),.own 5 (x.Qv.map QZ),.own 4 (x.Qq.map Vq),.own 5 (x.Qw.map Vv),.own 4 (x.Book.map Vx),.i .i64 x.Now]:=Qj
instance(yxNo yxNow){R1 yxFinds R2 yxSecrets R3 yxSlots R4 yxClaims R5 yxTrials R6 yxChain R7 yxBook}[H1:QC Vn R1 yxFinds][H2:QC VF R2 yxSecrets][H3:QC VA R3 yxSlots][H4:QC QZ R4 yxClaims][H5:QC Vq R5 yxTrials][H6:QC Vv R6 yxChain][H7:QC Vx R7 yxBook]:QD Xi [.i .i64 yxNo,.own 8 R1,.own 3 R2,.own 3 R3,.own 5 R4,.own 4 R5,.own 5 R6,.own 4 R7,.i .i64 yxNow] (⟨yxNo,yxFinds,yxSecrets,yxSlots,yxClaims,yxTrials,yxChain,yxBook,yxNow⟩:Ql):=⟨by obtain⟨rfl⟩:=H1;obtain⟨rfl⟩:=H2;obtain⟨rfl⟩:=H3;obtain⟨rfl⟩:=H4;obtain⟨rfl⟩:=H5;obtain⟨rfl⟩:=H6;obtain⟨rfl⟩:=H7;rfl⟩
def zV(xs:List Ql):Vf (xs.map Xi)=xs.map Va:=D7 (λx=>by simp only[Us,lC,Xk,XC,j8,kZ,rk,pg,e8,qT,ll]) xs
def z6(xs:List Ql):Vd (xs.map Xi)=true:=Bd (λx=>by simp only[Us,XP,AV.clean,Bool.and_self,SP,lN,Y0,pq,OB,oZ,SY]) xs
def xO(x:Ql):(⟨x.No,x.Qt,x.Qn,x.Qs,x.Qv,x.Qq,x.Qw,x.Book,x.Now⟩:Ql)=x:=Qj
def JK(x:Bid):List AV:=[.i .i64 x.QA,.i .i64 x.Qy,.i .i64 x.Seal]
def mC(x:Bid):JK x=[.i .i64 x.QA,.i .i64 x.Qy,.i .i64 x.Seal]:=Qj
instance(yxWho yxCents yxSeal)  : QD JK [.i .i64 yxWho,.i .i64 yxCents,.i .i64 yxSeal] (⟨yxWho,yxCents,yxSeal⟩:Bid):=⟨by rfl⟩
def QaK(xs:List Bid):Vf (xs.map JK)=xs.map JK:=D7 (λx=>by simp only[mC,Xk,XC]) xs
def uL(xs:List Bid):Vd (xs.map JK)=true:=Bd (λx=>by simp only[mC,XP,AV.clean,Bool.and_self]) xs
def QgZ(x:Bid):(⟨x.QA,x.Qy,x.Seal⟩:Bid)=x:=Qj
def gj(x:Event):List AV:=[.i .i64 x.Kind,.i .i64 x.QB.Qo.Id,.i .i64 x.QB.Qo.Kind,.i .i64 x.QB.Qo.Colour,.i .i64 x.QB.Qo.Size,.i .i64 x.QB.Qo.Worth,.i .i64 x.QB.Place,.i .i64 x.QB.At,.i .i64 x.QB.Qz,.imm 2 (x.Marks.map Xb),.i .i64 x.Id,.i .i64 x.QA,.i .i64 x.N,.imm 3 (x.Bids.map JK)]
def jm(x:Event):gj x=[.i .i64 x.Kind,.i .i64 x.QB.Qo.Id,.i .i64 x.QB.Qo.Kind,.i .i64 x.QB.Qo.Colour,.i .i64 x.QB.Qo.Size,.i .i64 x.QB.Qo.Worth,.i .i64 x.QB.Place,.i .i64 x.QB.At,.i .i64 x.QB.Qz,.imm 2 (x.Marks.map Xb),.i .i64 x.Id,.i .i64 x.QA,.i .i64 x.N,.imm 3 (x.Bids.map JK)]:=Qj
instance(yxKind yxFindxThingxId yxFindxThingxKind yxFindxThingxColour yxFindxThingxSize yxFindxThingxWorth yxFindxPlace yxFindxAt yxFindxFinder yxId yxWho yxN){R1 yxMarks R2 yxBids}[H1:QC Xb R1 yxMarks][H2:QC JK R2 yxBids]:QD gj [.i .i64 yxKind,.i .i64 yxFindxThingxId,.i .i64 yxFindxThingxKind,.i .i64 yxFindxThingxColour,.i .i64 yxFindxThingxSize,.i .i64 yxFindxThingxWorth,.i .i64 yxFindxPlace,.i .i64 yxFindxAt,.i .i64 yxFindxFinder,.imm 2 R1,.i .i64 yxId,.i .i64 yxWho,.i .i64 yxN,.imm 3 R2] (⟨yxKind,⟨⟨yxFindxThingxId,yxFindxThingxKind,yxFindxThingxColour,yxFindxThingxSize,yxFindxThingxWorth⟩,yxFindxPlace,yxFindxAt,yxFindxFinder⟩,yxMarks,yxId,yxWho,yxN,yxBids⟩:Event):=⟨by obtain⟨rfl⟩:=H1;obtain⟨rfl⟩:=H2;rfl⟩
def Oo(x:Event):List AV:=[.i .i64 x.Kind,.i .i64 x.QB.Qo.Id,.i .i64 x.QB.Qo.Kind,.i .i64 x.QB.Qo.Colour,.i .i64 x.QB.Qo.Size,.i .i64 x.QB.Qo.Worth,.i .i64 x.QB.Place,.i .i64 x.QB.At,.i .i64 x.QB.Qz,.own 2 (x.Marks.map Xb),.i .i64 x.Id,.i .i64 x.QA,.i .i64 x.N,.own 3 (x.Bids.map JK)]
def Wb(x:Event):Oo x=[.i .i64 x.Kind,.i .i64 x.QB.Qo.Id,.i .i64 x.QB.Qo.Kind,.i .i64 x.QB.Qo.Colour,.i .i64 x.QB.Qo.Size,.i .i64 x.QB.Qo.Worth,.i .i64 x.QB.Place,.i .i64 x.QB.At,.i .i64 x.QB.Qz,.own 2 (x.Marks.map Xb),.i .i64 x.Id,.i .i64 x.QA,.i .i64 x.N,.own 3 (x.Bids.map JK)]:=Qj
instance(yxKind yxFindxThingxId yxFindxThingxKind yxFindxThingxColour yxFindxThingxSize yxFindxThingxWorth yxFindxPlace yxFindxAt yxFindxFinder yxId yxWho yxN){R1 yxMarks R2 yxBids}[H1:QC Xb R1 yxMarks][H2:QC JK R2 yxBids]:QD Oo [.i .i64 yxKind,.i .i64 yxFindxThingxId,.i .i64 yxFindxThingxKind,.i .i64 yxFindxThingxColour,.i .i64 yxFindxThingxSize,.i .i64 yxFindxThingxWorth,.i .i64 yxFindxPlace,.i .i64 yxFindxAt,.i .i64 yxFindxFinder,.own 2 R1,.i .i64 yxId,.i .i64 yxWho,.i .i64 yxN,.own 3 R2] (⟨yxKind,⟨⟨yxFindxThingxId,yxFindxThingxKind,yxFindxThingxColour,yxFindxThingxSize,yxFindxThingxWorth⟩,yxFindxPlace,yxFindxAt,yxFindxFinder⟩,yxMarks,yxId,yxWho,yxN,yxBids⟩:Event):=⟨by obtain⟨rfl⟩:=H1;obtain⟨rfl⟩:=H2;rfl⟩
def xj(xs:List Event):Vf (xs.map Oo)=xs.map gj:=D7 (λx=>by simp only[Wb,jm,Xk,XC,QaK,ii]) xs
def xX(xs:List Event):Vd (xs.map Oo)=true:=Bd (λx=>by simp only[Wb,XP,AV.clean,Bool.and_self,uL,io]) xs
def vr(x:Event):(⟨x.Kind,x.QB,x.Marks,x.Id,x.QA,x.N,x.Bids⟩:Event)=x:=Qj
def cU(x:Span):List AV:=[.i .i64 x.From,.i .i64 x.Until]
def iK(x:Span):cU x=[.i .i64 x.From,.i .i64 x.Until]:=Qj
instance(yxFrom yxUntil)  : QD cU [.i .i64 yxFrom,.i .i64 yxUntil] (⟨yxFrom,yxUntil⟩:Span):=⟨by rfl⟩
def Qc3(xs:List Span):Vf (xs.map cU)=xs.map cU:=D7 (λx=>by simp only[iK,Xk,XC]) xs
def Qde(xs:List Span):Vd (xs.map cU)=true:=Bd (λx=>by simp only[iK,XP,AV.clean,Bool.and_self]) xs
def QeO(x:Span):(⟨x.From,x.Until⟩:Span)=x:=Qj
def D1(x:Report):List AV:=[.i .i64 x.Id,.i .i64 x.Kind,.imm 1 (x.Colours.map Q9),.i .i64 x.SizeLow,.i .i64 x.SizeHigh,.imm 1 (x.Places.map Q9),.i .i64 x.Span.From,.i .i64 x.Span.Until]
def eN(x:Report):D1 x=[.i .i64 x.Id,.i .i64 x.Kind,.imm 1 (x.Colours.map Q9),.i .i64 x.SizeLow,.i .i64 x.SizeHigh,.imm 1 (x.Places.map Q9),.i .i64 x.Span.From,.i .i64 x.Span.Until]:=Qj
instance(yxId yxKind yxSizeLow yxSizeHigh yxSpanxFrom yxSpanxUntil){R1 yxColours R2 yxPlaces}[H1:QC Q9 R1 yxColours][H2:QC Q9 R2 yxPlaces]:QD D1 [.i .i64 yxId,.i .i64 yxKind,.imm 1 R1,.i .i64 yxSizeLow,.i .i64 yxSizeHigh,.imm 1 R2,.i .i64 yxSpanxFrom,.i .i64 yxSpanxUntil] (⟨yxId,yxKind,yxColours,yxSizeLow,yxSizeHigh,yxPlaces,⟨yxSpanxFrom,yxSpanxUntil⟩⟩:Report):=⟨by obtain⟨rfl⟩:=H1;obtain⟨rfl⟩:=H2;rfl⟩
def LX(x:Report):List AV:=[.i .i64 x.Id,.i .i64 x.Kind,.own 1 (x.Colours.map Q9),.i .i64 x.SizeLow,.i .i64 x.SizeHigh,.own 1 (x.Places.map Q9),.i .i64 x.Span.From,.i .i64 x.Span.Until]
def Ro(x:Report):LX x=[.i .i64 x.Id,.i .i64 x.Kind,.own 1 (x.Colours.map Q9),.i .i64 x.SizeLow,.i .i64 x.SizeHigh,.own 1 (x.Places.map Q9),.i .i64 x.Span.From,.i .i64 x.Span.Until]:=Qj
instance(yxId yxKind yxSizeLow yxSizeHigh yxSpanxFrom yxSpanxUntil){R1 yxColours R2 yxPlaces}[H1:QC Q9 R1 yxColours][H2:QC Q9 R2 yxPlaces]:QD LX [.i .i64 yxId,.i .i64 yxKind,.own 1 R1,.i .i64 yxSizeLow,.i .i64 yxSizeHigh,.own 1 R2,.i .i64 yxSpanxFrom,.i .i64 yxSpanxUntil] (⟨yxId,yxKind,yxColours,yxSizeLow,yxSizeHigh,yxPlaces,⟨yxSpanxFrom,yxSpanxUntil⟩⟩:Report):=⟨by obtain⟨rfl⟩:=H1;obtain⟨rfl⟩:=H2;rfl⟩
def rW(xs:List Report):Vf (xs.map LX)=xs.map D1:=D7 (λx=>by simp only[Ro,eN,Xk,XC,uY]) xs
def sb(xs:List Report):Vd (xs.map LX)=true:=Bd (λx=>by simp only[Ro,XP,AV.clean,Bool.and_self,uG]) xs
def ta(x:Report):(⟨x.Id,x.Kind,x.Colours,x.SizeLow,x.SizeHigh,x.Places,x.Span⟩:Report)=x:=Qj
def RG(x:Share):List AV:=[.i .i64 x.QA,.i .i64 x.Qy]
def cJ(x:Share):RG x=[.i .i64 x.QA,.i .i64 x.Qy]:=Qj
instance(yxWho yxCents)  : QD RG [.i .i64 yxWho,.i .i64 yxCents] (⟨yxWho,yxCents⟩:Share):=⟨by rfl⟩
def w6(xs:List Share):Vf (xs.map RG)=xs.map RG:=D7 (λx=>by simp only[cJ,Xk,XC]) xs
def wM(xs:List Share):Vd (xs.map RG)=true:=Bd (λx=>by simp only[cJ,XP,AV.clean,Bool.and_self]) xs
def ui(x:Share):(⟨x.QA,x.Qy⟩:Share)=x:=Qj
def Ln(x:List Int):List AV:=[.imm 1 (x.map Q9)]
def vN(x:List Int):Ln x=[.imm 1 (x.map Q9)]:=Qj
instance{R}{x:List Int}[H:QC Q9 R x]:QD Ln [.imm 1 R] x:=⟨by obtain⟨rfl⟩:=H;rfl⟩
def sQ{R:List (List AV)}{xs:List (List Int)}(i:Int)[h:QC Ln R xs]:Q1 R i=Q1 xs i:=by rw[h.eq,eH]
def tv{R:List (List AV)}{xs:List (List Int)}(i:Int)[h:QC Ln R xs](hi:Q1 xs i=true):VI R i.toNat=Ln (gt xs i):=by rw[h.eq,fE xs i hi]
def QsL:=Qk @gZ @uY @uG @Qiu @Qjm @mG<|Qk @QlJ @QsR @Qmh @Qoo @xz @QwV<|Qk @Qyi @Qx7 @QuR @jJ @Qwl @QtZ<|Qk @Quj @Qvj @bE @zO @yd @vd<|Qk @gm @rk @Y0 @Qcx @gQ @ii<|Qk @io @QdS @eP @e8 @OB @tn<|Qk @P8 @aK @j8 @SP @uA @Y9<|Qk @ll @SY @wH @iI @qT @oZ<|Qk @Qbl @gq @pg @pq @Qbo @bN<|Qk @kZ @lN @vD @lC @zV @z6<|Qk @xO @Us @mC @QaK @uL @QgZ<|Qk @jm @xj @xX @vr @Wb @iK<|Qk @Qc3 @Qde @QeO @eN @rW @sb<|Qk @ta @Ro @cJ @w6 @wM @ui<|aI @vN<|aI @sQ @tv
def tys:bsl prog 184=true∧bsl prog 3=false∧bsl prog 5=false∧flT prog 160=false∧K5 prog 32=true∧K5 prog 34=true∧K5 prog 35=true∧K5 prog 36=true∧K5 prog 37=true∧K5 prog 38=true∧K5 prog 61=true∧K5 prog 62=true∧slz prog 9 160=[0,2,0]∧IY prog 184=[0]∧IY prog 227=[0,0]∧IY prog 287=[0]∧IY prog 32=[0,0,0,0,0,0,0,0]∧IY prog 33=[0,2,0]∧IY prog 34=[0,0,0]∧IY prog 35=[0,0,0,0,0]∧IY prog 350=[1]∧IY prog 36=[0,0,0,0]∧IY prog 37=[0,0,0,0,0]∧IY prog 38=[0,0,0,0]∧IY prog 54=[0]∧IY prog 61=[0,0]∧IY prog 62=[0,0,0]∧IY prog 66=[0]∧tb prog 118=some 16∧tb prog 133=some 24∧tb prog 135=some 24∧tb prog 146=some 32∧tb prog 152=some 40∧tb prog 160=some 40∧tb prog 169=some 40∧tb prog 173=some 32∧tb prog 3=some 8∧tb prog 60=some 64∧tb prog 9=some 16∧YN prog 118=.st [.i .i64 0,.i .i64 0] [(0,1),(1,1)]∧YN prog 133=.st [.i .i64 0,.i .i64 0,.i .i64 0] [(0,1),(1,1),(2,1)]∧YN prog 135=.st [.i .i64 0,.i .i64 0,.i .i64 0] [(0,1),(1,1),(2,1)]∧YN prog 146=.st [.i .i64 0,.i .i64 0,.i .i64 0,.i .i64 0] [(0,1),(1,1),(2,1),(3,1)]∧YN prog 152=.st [.i .i64 0,.i .i64 0,.i .i64 0,.i .i64 0,.i .i64 0] [(0,1),(1,1),(2,1),(3,1),(4,1)]∧YN prog 160=.st [.i .i64 0,.nil,.i .i64 0] [(0,1),(1,1),(2,1)]∧YN prog 169=.st [.i .i64 0,.i .i64 0,.i .i64 0,.i .i64 0,.i .i64 0] [(0,1),(1,1),(2,1),(3,1),(4,1)]∧YN prog 173=.st [.i .i64 0,.i .i64 0,.i .i64 0,.i .i64 0] [(0,1),(1,1),(2,1),(3,1)]∧YN prog 230=.st [.i .i64 0,.i .i64 0] [(0,1),(1,1)]∧YN prog 252=.arr [.s [],.s [],.s [],.s [],.s [],.s []] 1∧YN prog 280=.arr [.s [],.s [],.s [],.s [],.s [],.s [],.s [],.s []] 1∧YN prog 296=.arr [.s [],.s [],.s [],.s [],.s []] 1∧YN prog 40=.st [.i .i64 0,.nil,.nil,.nil,.nil,.nil,.nil,.nil,.i .i64 0] [(0,1),(1,1),(2,1),(3,1),(4,1),(5,1),(6,1),(7,1),(8,1)]∧YN prog 58=.st [.i .i64 0,.i .i64 0,.i .i64 0,.i .i64 0,.i .i64 0] [(0,1),(1,1),(2,1),(3,1),(4,1)]∧YN prog 60=.st [.i .i64 0,.i .i64 0,.i .i64 0,.i .i64 0,.i .i64 0,.i .i64 0,.i .i64 0,.i .i64 0] [(0,5),(5,1),(6,1),(7,1)]∧YN prog 64=.st [.i .i64 0,.i .i64 0,.i .i64 0,.i .i64 0,.i .i64 0,.i .i64 0,.i .i64 0,.i .i64 0,.i .i64 0,.nil,.i .i64 0,.i .i64 0,.i .i64 0,.nil] [(0,1),(1,8),(9,1),(10,1),(11,1),(12,1),(13,1)]∧YN prog 68=.st [.i .i64 0,.i .i64 0] [(0,1),(1,1)]∧YN prog 70=.st [.i .i64 0,.i .i64 0,.nil,.i .i64 0,.i .i64 0,.nil,.i .i64 0,.i .i64 0] [(0,1),(1,1),(2,1),(3,1),(4,1),(5,1),(6,2)]∧Yt prog 4=some [.t]∧Zb prog 115 0=some (0,.one)∧Zb prog 115 1=some (1,.one)∧Zb prog 115 2=some (2,.one)∧Zb prog 118 0=some (0,.one)∧Zb prog 118 1=some (1,.one)∧Zb prog 133 0=some (0,.one)∧Zb prog 133 1=some (1,.one)∧Zb prog 133 2=some (2,.one)∧Zb prog 135 0=some (0,.one)∧Zb prog 135 1=some (1,.one)∧Zb prog 146 0=some (0,.one)∧Zb prog 146 1=some (1,.one)∧Zb prog 146 2=some (2,.one)∧Zb prog 146 3=some (3,.one)∧Zb prog 152 0=some (0,.one)∧Zb prog 152 1=some (1,.one)∧Zb prog 152 2=some (2,.one)∧Zb prog 152 3=some (3,.one)∧Zb prog 152 4=some (4,.one)∧Zb prog 156 0=some (0,.one)∧Zb prog 156 1=some (1,.one)∧Zb prog 156 2=some (2,.one)∧Zb prog 156 3=some (3,.one)∧Zb prog 156 4=some (4,.one)∧Zb prog 158 0=some (0,.agg 5)∧Zb prog 158 1=some (5,.one)∧Zb prog 158 2=some (6,.one)∧Zb prog 158 3=some (7,.one)∧Zb prog 160 0=some (0,.one)∧Zb prog 160 1=some (1,.one)∧Zb prog 160 2=some (2,.one)∧Zb prog 163 0=some (0,.one)∧Zb prog 163 1=some (1,.one)∧Zb prog 163 2=some (2,.one)∧Zb prog 165 0=some (0,.one)∧Zb prog 165 1=some (1,.one)∧Zb prog 165 2=some (2,.one)∧Zb prog 165 3=some (3,.one)∧Zb prog 165 4=some (4,.one)∧Zb prog 167 0=some (0,.one)∧Zb prog 167 1=some (1,.one)∧Zb prog 167 2=some (2,.one)∧Zb prog 167 3=some (3,.one)∧Zb prog 169 0=some (0,.one)∧Zb prog 169 1=some (1,.one)∧Zb prog 169 2=some (2,.one)∧Zb prog 169 3=some (3,.one)∧Zb prog 169 4=some (4,.one)∧Zb prog 171 0=some (0,.one)∧Zb prog 171 1=some (1,.one)∧Zb prog 171 2=some (2,.one)∧Zb prog 171 3=some (3,.one)∧Zb prog 171 4=some (4,.one)∧Zb prog 173 0=some (0,.one)∧Zb prog 173 1=some (1,.one)∧Zb prog 173 2=some (2,.one)∧Zb prog 173 3=some (3,.one)∧Zb prog 175 0=some (0,.one)∧Zb prog 175 1=some (1,.one)∧Zb prog 175 2=some (2,.one)∧Zb prog 175 3=some (3,.one)∧Zb prog 230 0=some (0,.one)∧Zb prog 230 1=some (1,.one)∧Zb prog 276 0=some (0,.one)∧Zb prog 276 1=some (1,.one)∧Zb prog 30 0=some (0,.one)∧Zb prog 30 1=some (1,.one)∧Zb prog 30 2=some (2,.one)∧Zb prog 30 3=some (3,.one)∧Zb prog 30 4=some (4,.one)∧Zb prog 30 5=some (5,.one)∧Zb prog 30 6=some (6,.one)∧Zb prog 30 7=some (7,.one)∧Zb prog 30 8=some (8,.one)∧Zb prog 40 0=some (0,.one)∧Zb prog 40 1=some (1,.one)∧Zb prog 40 2=some (2,.one)∧Zb prog 40 3=some (3,.one)∧Zb prog 40 4=some (4,.one)∧Zb prog 40 5=some (5,.one)∧Zb prog 40 6=some (6,.one)∧Zb prog 40 7=some (7,.one)∧Zb prog 40 8=some (8,.one)∧Zb prog 58 0=some (0,.one)∧Zb prog 58 1=some (1,.one)∧Zb prog 58 2=some (2,.one)∧Zb prog 58 3=some (3,.one)∧Zb prog 58 4=some (4,.one)∧Zb prog 60 0=some (0,.agg 5)∧Zb prog 60 1=some (5,.one)∧Zb prog 60 2=some (6,.one)∧Zb prog 60 3=some (7,.one)∧Zb prog 64 0=some (0,.one)∧Zb prog 64 1=some (1,.agg 8)∧Zb prog 64 2=some (9,.one)∧Zb prog 64 3=some (10,.one)∧Zb prog 64 4=some (11,.one)∧Zb prog 64 5=some (12,.one)∧Zb prog 64 6=some (13,.one)∧Zb prog 68 0=some (0,.one)∧Zb prog 68 1=some (1,.one)∧Zb prog 70 0=some (0,.one)∧Zb prog 70 1=some (1,.one)∧Zb prog 70 2=some (2,.one)∧Zb prog 70 3=some (3,.one)∧Zb prog 70 4=some (4,.one)∧Zb prog 70 5=some (5,.one)∧Zb prog 70 6=some (6,.agg 2)∧ti prog 113=.sl 276 2∧ti prog 22=.sl 158 8∧ti prog 227=.sl 230 2∧ti prog 23=.sl 115 3∧ti prog 24=.sl 163 3∧ti prog 25=.sl 165 5∧ti prog 252=.arr 6 9 1∧ti prog 26=.sl 167 4∧ti prog 27=.sl 171 5∧ti prog 28=.sl 175 4∧ti prog 280=.arr 8 9 1∧ti prog 287=.sl 4 1∧ti prog 296=.arr 5 9 1∧ti prog 3=.int .i64∧ti prog 32=.sl 60 8∧ti prog 33=.sl 160 3∧ti prog 34=.sl 133 3∧ti prog 35=.sl 152 5∧ti prog 350=.sl 66 1∧ti prog 36=.sl 146 4∧ti prog 37=.sl 169 5∧ti prog 38=.sl 173 4∧ti prog 5=.int .u8∧ti prog 54=.sl 9 1∧ti prog 61=.sl 118 2∧ti prog 62=.sl 135 3∧ti prog 66=.sl 3 1∧ti prog 9=.str∧tk prog 113=.one∧tk prog 115=.agg 3∧tk prog 118=.agg 2∧tk prog 133=.agg 3∧tk prog 135=.agg 3∧tk prog 146=.agg 4∧tk prog 152=.agg 5∧tk prog 156=.agg 5∧tk prog 158=.agg 8∧tk prog 160=.agg 3∧tk prog 163=.agg 3∧tk prog 165=.agg 5∧tk prog 167=.agg 4∧tk prog 169=.agg 5∧tk prog 171=.agg 5∧tk prog 173=.agg 4∧tk prog 175=.agg 4∧tk prog 22=.one∧tk prog 23=.one∧tk prog 24=.one∧tk prog 25=.one∧tk prog 252=.agg 6∧tk prog 26=.one∧tk prog 27=.one∧tk prog 276=.agg 2∧tk prog 28=.one∧tk prog 280=.agg 8∧tk prog 296=.agg 5∧tk prog 3=.one∧tk prog 30=.agg 9∧tk prog 32=.one∧tk prog 33=.one∧tk prog 34=.one∧tk prog 35=.one∧tk prog 36=.one∧tk prog 37=.one∧tk prog 38=.one∧tk prog 4=.one∧tk prog 40=.agg 9∧tk prog 58=.agg 5∧tk prog 60=.agg 8∧tk prog 61=.one∧tk prog 62=.one∧tk prog 64=.agg 14∧tk prog 66=.one∧tk prog 68=.agg 2∧tk prog 70=.agg 8∧tk prog 9=.one∧E4 prog 32=true∧E4 prog 33=true∧E4 prog 34=true∧E4 prog 35=true∧E4 prog 36=true∧E4 prog 37=true∧E4 prog 38=true∧E4 prog 54=true∧E4 prog 61=true∧E4 prog 62=true∧E4 prog 66=true∧tok prog 3=true∧tok prog 5=true∧LQ prog 184=some (5,1,[.i .u8 0])∧LQ prog 227=some (230,2,[.i .i64 0,.i .i64 0])∧LQ prog 287=some (4,1,[.b false])∧LQ prog 32=some (60,8,[.i .i64 0,.i .i64 0,.i .i64 0,.i .i64 0,.i .i64 0,.i .i64 0,.i .i64 0,.i .i64 0])∧LQ prog 33=some (160,3,[.i .i64 0,.nil,.i .i64 0])∧LQ prog 34=some (133,3,[.i .i64 0,.i .i64 0,.i .i64 0])∧LQ prog 35=some (152,5,[.i .i64 0,.i .i64 0,.i .i64 0,.i .i64 0,.i .i64 0])∧LQ prog 350=some (66,1,[.nil])∧LQ prog 36=some (146,4,[.i .i64 0,.i .i64 0,.i .i64 0,.i .i64 0])∧LQ prog 37=some (169,5,[.i .i64 0,.i .i64 0,.i .i64 0,.i .i64 0,.i .i64 0])∧LQ prog 38=some (173,4,[.i .i64 0,.i .i64 0,.i .i64 0,.i .i64 0])∧LQ prog 54=some (9,1,[.s []])∧LQ prog 61=some (118,2,[.i .i64 0,.i .i64 0])∧LQ prog 62=some (135,3,[.i .i64 0,.i .i64 0,.i .i64 0])∧LQ prog 66=some (3,1,[.i .i64 0])∧WA prog 118=some [.i .i64 0,.i .i64 0]∧WA prog 133=some [.i .i64 0,.i .i64 0,.i .i64 0]∧WA prog 135=some [.i .i64 0,.i .i64 0,.i .i64 0]∧WA prog 146=some [.i .i64 0,.i .i64 0,.i .i64 0,.i .i64 0]∧WA prog 152=some [.i .i64 0,.i .i64 0,.i .i64 0,.i .i64 0,.i .i64 0]∧WA prog 160=some [.i .i64 0,.nil,.i .i64 0]∧WA prog 169=some [.i .i64 0,.i .i64 0,.i .i64 0,.i .i64 0,.i .i64 0]∧WA prog 173=some [.i .i64 0,.i .i64 0,.i .i64 0,.i .i64 0]∧WA prog 252=some [.s [],.s [],.s [],.s [],.s [],.s []]∧WA prog 280=some [.s [],.s [],.s [],.s [],.s [],.s [],.s [],.s []]∧WA prog 296=some [.s [],.s [],.s [],.s [],.s []]∧WA prog 40=some [.i .i64 0,.nil,.nil,.nil,.nil,.nil,.nil,.nil,.i .i64 0]∧WA prog 58=some [.i .i64 0,.i .i64 0,.i .i64 0,.i .i64 0,.i .i64 0]∧WA prog 60=some [.i .i64 0,.i .i64 0,.i .i64 0,.i .i64 0,.i .i64 0,.i .i64 0,.i .i64 0,.i .i64 0]∧WA prog 64=some [.i .i64 0,.i .i64 0,.i .i64 0,.i .i64 0,.i .i64 0,.i .i64 0,.i .i64 0,.i .i64 0,.i .i64 0,.nil,.i .i64 0,.i .i64 0,.i .i64 0,.nil]∧WA prog 70=some [.i .i64 0,.i .i64 0,.nil,.i .i64 0,.i .i64 0,.nil,.i .i64 0,.i .i64 0]:=by and_intros<;>kernel_rfl
def RS:List (List AV)→Option (List (List UInt8))
 |[]=>some []
 |[.s x]::r=>(RS r).map (x::·)
 |_=>none
def bP:∀l:List (List UInt8),RS (l.map Ij)=some l
 |[]=>rfl
 |x::l=>by rw[List.map_cons,jJ,RS,bP l];rfl
def xt(g:Nat)(args:List AV):Option AV:=match args with
 |[.nil,.i .i64 x]=>if g=405 then(Cv x).map λr=>.own 1 (r.map Q9)else none
 |[.imm 1 R,.s s]=>if g=43 then(RS R).bind λl=>(strings_Join l s).map .s else none
 |[.s s,.s t]=>if g=39 then(strings_Split s t).map λr=>.own 1 (r.map Ij)else if g=211 then(strings_Cut s t).map λr=>.tup [.s r.1,.s r.2.1,.b r.2.2]else none
 |[.i .i64 x]=>if g=218 then(strconv_Itoa x).map .s else none
 |_=>none
def mt(g:Nat)(K:KS)(args:List AV):Option AV:=mtI [(229,(4,32)),(305,(8,64)),(306,(3,40)),(311,(5,40))] g K args
def An3:Ann:={ ac:=[(15,0),(19,0)],jn:=[(10,(47,39,47)),(16,(68,56,68)),(27,(95,87,95))] }
def An4:Ann:={}
def An5:Ann:={ ord:=[(14,[0,2,3,4,1,5,6,7,8]),(28,[0,2,3,4,5,1,6,7,8]),(30,[0,2,3,4,5,6,7,8,1,9,10,11])],ot:=[(19,.one 0 (.one 1 (.one 2 (.alt (.one 3 (.alt (.one 4 (.one 5 (.one 6 (.one 7 (.one 8 (.one 9 (.one 10 (.done)))))))) (.one 8 (.one 4 (.one 5 (.one 6 (.one 7 (.one 9 (.one 10 (.done)))))))))) (.one 8 (.one 3 (.one 4 (.one 5 (.one 6 (.one 7 (.one 9 (.one 10 (.done)))))))))))))],av:=[(20,[27]),(25,[27])],fz:=[(15,[6])],jn:=[(2,(27,20,27)),(5,(40,32,40)),(16,(83,77,83)),(18,(94,86,94))],lp:=[(8,⟨[2,4,6,8,9],[.s 2 0,.s 4 0,.s 6 1],[2,4,8],[.s 2 0,.s 4 0]⟩)],sh:=[.a [0,8,3,3,5,4,5,4,0],.n] }
def An6:Ann:={ sh:=[.a [0,8,3,3,5,4,5,4,0]] }
def An7:Ann:={ ord:=[(14,[0,2,3,4,1,5,6,7,8]),(20,[0,2,3,4,5,6,1,7,8,9])],ot:=[(18,.one 0 (.one 1 (.one 2 (.one 3 (.one 4 (.alt (.one 5 (.one 6 (.one 7 (.one 8 (.one 9 (.one 10 (.one 11 (.one 12 (.one 13 (.done)))))))))) (.one 10 (.one 5 (.one 6 (.one 7 (.one 8 (.one 9 (.one 11 (.one 12 (.one 13 (.done))))))))))))))))],fz:=[(11,[6])],jn:=[(8,(48,31,48))],lp:=[(3,⟨[1,2,4,6,18,19,20],[.s 2 0,.s 4 0,.s 6 1,.s 18 1],[1,2,4,6],[.s 2 0,.s 4 0,.s 6 1]⟩)],sh:=[.a [0,8,3,3,5,4,5,4,0],.n] }
def An8:Ann:={}
def An9:Ann:={ ak:=[0,1,2,3,4,5,6],ac:=[(1,0),(2,0),(3,0),(4,0),(5,0),(6,0),(7,0)] }
def Qju:Ann:={}
def Qk9:Ann:={}
def QbQ:Ann:={ lp:=[(5,⟨[0,1,5],[],[1],[]⟩)],rt:=⟨[4],[],[],[]⟩ }
def QhG:Ann:={}
def Qj1:Ann:={}
def QhO:Ann:={}
def QhE:Ann:={}
def Qir:Ann:={}
def QbG:Ann:={ jn:=[(6,(22,13,22))],lp:=[(4,⟨[0,3,4,5],[.s 3 1],[3],[.s 3 1]⟩)],sh:=[.z 1] }
def QhL:Ann:={ ord:=[(1,[0,1,2,3,4,6,7,9,10,11,13,14,15,17,18,19,21,22,23,25,26,27,29,30,5,8,12,16,20,24,28,31,32])],eb:=[(1,[5,12,16,20,24,28])],sh:=[.a [0,8,3,3,5,4,5,4,0]] }
def Qkx:Ann:={ ord:=[(3,[0,1,2,4,5,3,6,7,8,9,10,11,12])],ot:=[(6,.one 0 (.one 1 (.one 2 (.one 3 (.one 4 (.one 5 (.one 7 (.one 8 (.one 9 (.one 10 (.one 11 (.one 12 (.one 13 (.one 14 (.one 15 (.one 17 (.one 18 (.one 19 (.one 20 (.one 21 (.one 22 (.one 23 (.one 24 (.one 25 (.alt (.one 6 (.one 16 (.one 26 (.one 27 (.one 28 (.done)))))) (.one 27 (.one 6 (.one 16 (.one 26 (.one 28 (.done)))))))))))))))))))))))))))))))],jn:=[(1,(21,6,21))],sh:=[.a [0,0,0,0,0,0,0,0,0,2,0,0,0,3]] }
def QkQ:Ann:={ jn:=[(10,(101,74,101))],sh:=[.a [0,0,1,0,0,1,0,0],.n] }
def Qcy:Ann:={ lp:=[(3,⟨[0,3,4],[.s 3 1],[3],[.s 3 1]⟩)] }
def Qdb:Ann:={ jn:=[(3,(15,8,15))],lp:=[(3,⟨[1,2,5,6],[.s 2 0,.s 5 1],[5],[.s 5 1]⟩)],sh:=[.z 1] }
def QeS:Ann:={ lp:=[(3,⟨[0,4,5],[.s 4 1],[4],[.s 4 1]⟩)],rt:=⟨[2,3],[.s 2 1],[],[]⟩,sh:=[.z 1,.n] }
def QjW:Ann:={ jn:=[(2,(20,11,20))],sh:=[.a [0,8,3,3,5,4,5,4,0],.n] }
def Qhl:Ann:={ sh:=[.z 3] }
def QhX:Ann:={ sh:=[.a [0,8,3,3,5,4,5,4,0],.n] }
def Qh1:Ann:={ jn:=[(1,(5,6,13)),(3,(23,24,31)),(5,(38,39,46)),(7,(50,51,58)),(9,(62,63,70)),(11,(83,84,91))],sh:=[.a [0,0,0,0,0,0,0,0,0,2,0,0,0,3]] }
def Qhx:Ann:={ sh:=[.a [0,8,3,3,5,4,5,4,0],.n] }
def Qg3:Ann:={}
def Qjx:Ann:={ ord:=[(7,[0,1,2,3,4,5,6,7,9,8,10,11,12])],jn:=[(5,(29,24,29))] }
def Qeg:Ann:={ lp:=[(3,⟨[0,3,4],[.s 3 8],[3],[.s 3 8]⟩)],sh:=[.z 8] }
def Qci:Ann:={ lp:=[(3,⟨[0,3,4],[.s 3 3],[3],[.s 3 3]⟩)],sh:=[.z 3] }
def Qcu:Ann:={ lp:=[(3,⟨[0,3,4],[.s 3 3],[3],[.s 3 3]⟩)],sh:=[.z 3] }
def QcR:Ann:={ lp:=[(3,⟨[0,3,4],[.s 3 5],[3],[.s 3 5]⟩)],sh:=[.z 5] }
def QeQ:Ann:={ lp:=[(3,⟨[0,3,4],[.s 3 4],[3],[.s 3 4]⟩)],sh:=[.z 4] }
def QdH:Ann:={ lp:=[(3,⟨[0,3,4],[.s 3 5],[3],[.s 3 5]⟩)],sh:=[.z 5] }
def Qca:Ann:={ lp:=[(3,⟨[0,3,4],[.s 3 4],[3],[.s 3 4]⟩)],sh:=[.z 4] }
def QiA:Ann:={}
def Qjv:Ann:={ ord:=[(1,[0,1,3,4,6,7,9,10,2,12,5,8,11,13,14,15,16,17,18,19]),(2,[0,1,3,4,6,7,2,9,5,8,10,11,12,13,14])],sh:=[.a [0,8,3,3,5,4,5,4,0]] }
def Qi0:Ann:={ jn:=[(10,(97,74,97))],sh:=[.a [0,0,1,0,0,1,0,0],.n] }
def QeR:Ann:={ lp:=[(3,⟨[3,7,8,9],[.s 3 1],[3],[.s 3 1]⟩)] }
def Qdr:Ann:={ lp:=[(5,⟨[2,5,13,14,15],[.s 2 0,.s 5 1],[5],[.s 5 1]⟩)],sh:=[.z 1] }
def Qdq:Ann:={ jn:=[(6,(30,23,30))],lp:=[(3,⟨[0,4,11,12,13],[.s 4 1],[4],[.s 4 1]⟩)],rt:=⟨[2,3],[.s 2 1],[],[]⟩,sh:=[.z 1,.n] }
def QhM:Ann:={ sh:=[.a [0,8,3,3,5,4,5,4,0],.n,.n,.n] }
def Qi5:Ann:={ ord:=[(7,[0,1,2,3,4,5,6,7,9,8,10,11,12])],ot:=[(3,.one 0 (.one 1 (.one 2 (.one 3 (.alt (.one 4 (.one 5 (.one 6 (.one 7 (.one 8 (.one 9 (.one 10 (.done)))))))) (.one 8 (.one 4 (.one 5 (.one 6 (.one 7 (.one 9 (.one 10 (.done)))))))))))))],jn:=[(5,(34,29,34))] }
def Qcr:Ann:={ lp:=[(4,⟨[0,1,5],[],[],[]⟩)],rt:=⟨[4],[],[],[]⟩ }
def Qd7:Ann:={ lp:=[(4,⟨[0,1,5],[],[],[]⟩)],rt:=⟨[4],[],[],[]⟩ }
def Qcc:Ann:={ lp:=[(4,⟨[0,1,5],[],[],[]⟩)],rt:=⟨[4],[],[],[]⟩ }
def QbF:Ann:={ lp:=[(4,⟨[0,1,5],[],[],[]⟩)],rt:=⟨[4],[],[],[]⟩ }
def QdI:Ann:={ lp:=[(4,⟨[0,1,5],[],[],[]⟩)],rt:=⟨[4],[],[],[]⟩ }
def QdE:Ann:={ lp:=[(4,⟨[0,1,5],[],[],[]⟩)],rt:=⟨[4],[],[],[]⟩ }
def QbI:Ann:={ lp:=[(4,⟨[0,1,5],[],[],[]⟩)],rt:=⟨[4],[],[],[]⟩ }
def QbP:Ann:={ ak:=[0],lp:=[(2,⟨[0,1,5],[.s 0 8],[0,1],[.s 0 8]⟩)] }
def Qd9:Ann:={ an:=[(6,[0,0,0,0])],ak:=[0],lp:=[(2,⟨[0,1,5],[.s 0 3],[0,1],[.s 0 3]⟩)] }
def QeC:Ann:={ ak:=[0],lp:=[(2,⟨[0,1,5],[.s 0 3],[0,1],[.s 0 3]⟩)] }
def Qey:Ann:={ ak:=[0],lp:=[(2,⟨[0,1,5],[.s 0 5],[0,1],[.s 0 5]⟩)] }
def Qbu:Ann:={ ak:=[0],lp:=[(2,⟨[0,1,5],[.s 0 4],[0,1],[.s 0 4]⟩)] }
def QbU:Ann:={ ak:=[0],lp:=[(2,⟨[0,1,5],[.s 0 5],[0,1],[.s 0 5]⟩)] }
def Qbw:Ann:={ ak:=[0],lp:=[(2,⟨[0,1,5],[.s 0 4],[0,1],[.s 0 4]⟩)] }
def Qdg:Ann:={ lp:=[(2,⟨[0,1,5],[],[1],[]⟩)],rt:=⟨[4],[],[],[]⟩ }
def Qep:Ann:={ lp:=[(2,⟨[0,1,5],[],[1],[]⟩)],rt:=⟨[4],[],[],[]⟩ }
def QdB:Ann:={ lp:=[(2,⟨[0,1,5],[],[1],[]⟩)],rt:=⟨[4],[],[],[]⟩ }
def Qet:Ann:={ lp:=[(2,⟨[0,1,5],[],[1],[]⟩)],rt:=⟨[4],[],[],[]⟩ }
def QbV:Ann:={ lp:=[(2,⟨[0,1,5],[],[1],[]⟩)],rt:=⟨[4],[],[],[]⟩ }
def Qbr:Ann:={ lp:=[(2,⟨[0,1,5],[],[1],[]⟩)],rt:=⟨[4],[],[],[]⟩ }
def QbT:Ann:={ lp:=[(2,⟨[0,1,5],[],[1],[]⟩)],rt:=⟨[4],[],[],[]⟩ }
def Qho:Ann:={}
def QdF:Ann:={ ord:=[(5,[0,1,2,3,4,5,6,7,8,9,10,11,13,14,15,16,17,12,18,19,20,21])],eb:=[(5,[18])],lp:=[(3,⟨[0,3,4],[.s 3 3],[3],[.s 3 3]⟩)],sh:=[.z 3] }
def Qda:Ann:={ lp:=[(2,⟨[0,3],[],[],[]⟩)],rt:=⟨[2],[],[],[]⟩ }
def QdD:Ann:={ jn:=[(6,(25,15,25))],lp:=[(4,⟨[0,1,5,6,7],[.s 5 1],[5],[.s 5 1]⟩)],sh:=[.z 1] }
def Qec:Ann:={ jn:=[(10,(37,30,37))],lp:=[(5,⟨[0,4,5],[],[0,4],[]⟩)],rt:=⟨[2,3],[],[],[]⟩ }
def QdR:Ann:={ lp:=[(6,⟨[0,4,5,6],[.s 4 1,.s 5 1],[0,4],[.s 4 1]⟩)],rt:=⟨[2,3],[.s 2 1],[],[]⟩,sh:=[.z 1,.n] }
def QiP:Ann:={}
def QkD:Ann:={ ord:=[(3,[0,1,4,5,9,10,14,15,19,20,24,25,29,30,31,35,36,37,2,3,6,7,8,11,12,13,16,17,18,21,22,23,26,27,28,32,33,34,38,39,40])] }
def QbN:Ann:={ lp:=[(5,⟨[0,3,4],[],[0,3],[]⟩)] }
def Qei:Ann:={ lp:=[(3,⟨[0,3,4],[],[0,3],[]⟩)] }
def QeM:Ann:={ jn:=[(4,(35,10,35))],lp:=[(2,⟨[0,3],[],[0],[]⟩)],rt:=⟨[2],[],[],[]⟩ }
def Qk2:Ann:={}
def QkJ:Ann:={ jn:=[(1,(48,3,48)),(3,(86,49,86)),(5,(2,87,93))] }
def QdW:Ann:={ lp:=[(3,⟨[0,3,4],[],[3],[]⟩)] }
def Qj9:Ann:={ av:=[(10,[184])],sh:=[.a [0,8,3,3,5,4,5,4,0],.n] }
def Qd1:Ann:={ ot:=[(7,.one 0 (.one 1 (.one 2 (.one 3 (.one 4 (.one 6 (.one 7 (.one 12 (.alt (.one 5 (.alt (.one 8 (.alt (.one 9 (.one 10 (.one 11 (.one 13 (.one 14 (.one 15 (.one 16 (.done)))))))) (.one 10 (.alt (.one 9 (.one 11 (.one 13 (.one 14 (.one 15 (.one 16 (.done))))))) (.one 11 (.one 13 (.one 9 (.one 14 (.one 15 (.one 16 (.done))))))))))) (.one 10 (.alt (.one 8 (.alt (.one 9 (.one 11 (.one 13 (.one 14 (.one 15 (.one 16 (.done))))))) (.one 11 (.one 13 (.one 9 (.one 14 (.one 15 (.one 16 (.done))))))))) (.one 11 (.one 13 (.one 8 (.one 9 (.one 14 (.one 15 (.one 16 (.done)))))))))))) (.alt (.one 8 (.alt (.one 5 (.alt (.one 9 (.one 10 (.one 11 (.one 13 (.one 14 (.one 15 (.one 16 (.done)))))))) (.one 10 (.alt (.one 9 (.one 11 (.one 13 (.one 14 (.one 15 (.one 16 (.done))))))) (.one 11 (.one 13 (.one 9 (.one 14 (.one 15 (.one 16 (.done))))))))))) (.one 10 (.alt (.one 5 (.alt (.one 9 (.one 11 (.one 13 (.one 14 (.one 15 (.one 16 (.done))))))) (.one 11 (.one 13 (.one 9 (.one 14 (.one 15 (.one 16 (.done))))))))) (.one 11 (.one 13 (.one 5 (.one 9 (.one 14 (.one 15 (.one 16 (.done)))))))))))) (.one 10 (.alt (.one 5 (.alt (.one 8 (.alt (.one 9 (.one 11 (.one 13 (.one 14 (.one 15 (.one 16 (.done))))))) (.one 11 (.one 13 (.one 9 (.one 14 (.one 15 (.one 16 (.done))))))))) (.one 11 (.one 13 (.one 8 (.one 9 (.one 14 (.one 15 (.one 16 (.done)))))))))) (.alt (.one 8 (.alt (.one 5 (.alt (.one 9 (.one 11 (.one 13 (.one 14 (.one 15 (.one 16 (.done))))))) (.one 11 (.one 13 (.one 9 (.one 14 (.one 15 (.one 16 (.done))))))))) (.one 11 (.one 13 (.one 5 (.one 9 (.one 14 (.one 15 (.one 16 (.done)))))))))) (.one 11 (.one 13 (.alt (.one 5 (.one 8 (.one 9 (.one 14 (.one 15 (.one 16 (.done))))))) (.one 8 (.one 5 (.one 9 (.one 14 (.one 15 (.one 16 (.done)))))))))))))))))))))))],eb:=[(7,[47])],av:=[(8,[184])],jn:=[(5,(44,30,44))],lp:=[(5,⟨[1,3,4,8,10,12,13],[.s 4 0,.s 8 0,.s 10 0,.c 2 1 8,.c 2 2 3,.c 2 3 3,.c 2 4 5,.c 2 5 4,.c 2 6 5,.c 2 7 4],[1,3,4,8,10,12,13],[.s 4 0,.s 8 0,.s 10 0,.c 2 1 8,.c 2 2 3,.c 2 3 3,.c 2 4 5,.c 2 5 4,.c 2 6 5,.c 2 7 4]⟩)],sh:=[.a [0,8,3,3,5,4,5,4,0],.n] }
def QkE:Ann:={ av:=[(13,[184])],jn:=[(3,(34,19,34))],sh:=[.a [0,8,3,3,5,4,5,4,0],.n] }
def Qjn:Ann:={ ot:=[(9,.one 0 (.one 1 (.one 2 (.one 3 (.one 4 (.one 5 (.one 6 (.one 7 (.one 8 (.one 9 (.one 10 (.one 11 (.one 12 (.one 13 (.one 14 (.one 15 (.one 16 (.one 17 (.alt (.one 18 (.alt (.one 19 (.one 20 (.one 21 (.one 22 (.one 23 (.one 24 (.one 25 (.done)))))))) (.one 23 (.one 19 (.one 20 (.one 21 (.one 22 (.one 24 (.one 25 (.done)))))))))) (.one 23 (.one 18 (.one 19 (.one 20 (.one 21 (.one 22 (.one 24 (.one 25 (.done))))))))))))))))))))))))))))],av:=[(9,[192]),(10,[184])],jn:=[(3,(33,23,33))],sh:=[.a [0,8,3,3,5,4,5,4,0],.n] }
def Qh8:Ann:={ ot:=[(9,.one 0 (.one 1 (.one 2 (.one 3 (.one 4 (.one 5 (.one 6 (.one 7 (.one 8 (.alt (.one 9 (.one 10 (.one 11 (.one 12 (.one 13 (.one 14 (.one 15 (.done)))))))) (.one 13 (.one 9 (.one 10 (.one 11 (.one 12 (.one 14 (.one 15 (.done))))))))))))))))))],av:=[(6,[192]),(9,[192]),(10,[184]),(11,[184])],jn:=[(3,(50,27,50))],sh:=[.a [0,8,3,3,5,4,5,4,0],.n] }
def Qg8:Ann:={ ot:=[(6,.one 0 (.one 1 (.one 2 (.one 3 (.one 4 (.one 5 (.one 6 (.one 7 (.alt (.one 8 (.one 9 (.one 10 (.one 11 (.one 12 (.one 13 (.one 14 (.done)))))))) (.one 12 (.one 8 (.one 9 (.one 10 (.one 11 (.one 13 (.one 14 (.done)))))))))))))))))],av:=[(7,[184]),(11,[184])],jn:=[(2,(21,15,21))],sh:=[.a [0,8,3,3,5,4,5,4,0],.n] }
def Qkz:Ann:={ av:=[(5,[184])],jn:=[(2,(17,9,17))],sh:=[.a [0,8,3,3,5,4,5,4,0],.n] }
def QeI:Ann:={ lp:=[(3,⟨[0,1,5,6],[.s 5 1],[5],[.s 5 1]⟩)],sh:=[.z 1] }
def QdT:Ann:={ lp:=[(3,⟨[0,3,4],[.s 3 1],[3],[.s 3 1]⟩)] }
def QcY:Ann:={ ord:=[(8,[0,1,2,3,4,5,8,9,10,11,12,16,17,18,19,20,23,6,7,13,14,15,21,22,24,25,26,27])],lp:=[(3,⟨[0,3,4],[.s 3 1],[3],[.s 3 1]⟩)] }
def Qg1:Ann:={}
def Qjh:Ann:={}
def QeK:Ann:={ lp:=[(2,⟨[1,2,4,6],[.s 2 0,.s 4 0],[4],[.s 4 0]⟩)],rt:=⟨[4,5],[.s 4 0],[],[]⟩ }
def QcF:Ann:={ lp:=[(2,⟨[0,1,5],[],[],[]⟩)],rt:=⟨[4],[],[],[]⟩ }
def Qhh:Ann:={}
def QiC:Ann:={ sh:=[.z 2] }
def rp:Ann:={ ord:=[(8,[0,1,2,3,4,5,8,9,10,11,12,16,17,18,19,20,6,7,13,14,15,21,22,23])],lp:=[(4,⟨[5,6,7],[.s 6 5],[5,6],[.s 6 5]⟩)] }
def qF:Ann:={ lp:=[(2,⟨[0,1,5],[],[],[]⟩)],rt:=⟨[4],[],[],[]⟩ }
def xe:Ann:={}
def oM:Ann:={ jn:=[(6,(36,20,36)),(10,(42,43,53))],lp:=[(4,⟨[1,2,3,7],[.s 3 0],[2,3],[.s 3 0]⟩)],rt:=⟨[6],[],[],[]⟩ }
def vM:Ann:={}
def pF:Ann:={ jn:=[(3,(14,7,14))],lp:=[(3,⟨[0,1,5,6],[],[5],[]⟩)] }
def vq:Ann:={}
def uC:Ann:={ sh:=[.a [0,2,0]] }
def Qbg:Ann:={}
def zF:Ann:={}
def zI:Ann:={}
def Qac:Ann:={}
def yE:Ann:={}
def QaL:Ann:={ sh:=[.z 8] }
def oE:Ann:={ lp:=[(3,⟨[3,7,8,9],[.s 3 3],[3],[.s 3 3]⟩)],sh:=[.z 3] }
def yw:Ann:={ sh:=[.z 3] }
def ux:Ann:={ sh:=[.z 5] }
def zG:Ann:={ sh:=[.z 4] }
def yp:Ann:={ sh:=[.z 5] }
def yu:Ann:={ sh:=[.z 4] }
def rz:Ann:={ jn:=[(1,(23,6,23)),(7,(38,29,38))],lp:=[(5,⟨[0,4,25,26],[],[4],[]⟩)],rt:=⟨[2,3],[],[],[]⟩ }
def pj:Ann:={ lp:=[(5,⟨[4,14,15,16],[.s 4 1,.s 14 1],[4],[.s 4 1]⟩)],rt:=⟨[2,3],[.s 2 1],[],[]⟩,sh:=[.z 1,.n] }
def QaH:Ann:={}
def oO:Ann:={ lp:=[(2,⟨[0,3],[],[],[]⟩)],rt:=⟨[2],[],[],[]⟩ }
def wZ:Ann:={ ord:=[(3,[0,1,3,4,6,7,9,10,11,12,14,15,17,18,19,20,21,22,2,5,8,13,16,23,24,25,26])] }
def uv:Ann:={}
def zw:Ann:={}
def pI:Ann:={ jn:=[(6,(34,15,34))],lp:=[(4,⟨[0,8,9,10],[],[],[]⟩)],rt:=⟨[2],[],[],[]⟩ }
def zf:Ann:={}
def wP:Ann:={ sh:=[.a [0,8,3,3,5,4,5,4,0],.n] }
def zQ:Ann:={ sh:=[.z 3] }
def zc:Ann:={ av:=[(6,[226])],sh:=[.a [0,8,3,3,5,4,5,4,0],.n] }
def Qa3:Ann:={ ot:=[(5,.one 0 (.one 1 (.one 2 (.one 3 (.one 4 (.one 6 (.one 7 (.alt (.one 5 (.one 8 (.one 9 (.one 10 (.one 11 (.done)))))) (.one 8 (.one 5 (.one 9 (.one 10 (.one 11 (.done))))))))))))))],av:=[(5,[229]),(6,[226])],jn:=[(3,(40,27,40))],sh:=[.a [0,8,3,3,5,4,5,4,0],.n] }
def zR:Ann:={ av:=[(12,[226])],jn:=[(3,(33,18,33))],sh:=[.a [0,8,3,3,5,4,5,4,0],.n] }
def vS:Ann:={ av:=[(12,[226])],jn:=[(3,(30,25,30))],sh:=[.a [0,8,3,3,5,4,5,4,0],.n] }
def uB:Ann:={ av:=[(11,[226])],sh:=[.a [0,8,3,3,5,4,5,4,0],.n] }
def QaX:Ann:={ av:=[(11,[226])],jn:=[(3,(42,28,42)),(9,(80,68,80))],sh:=[.a [0,8,3,3,5,4,5,4,0],.n] }
def vG:Ann:={ av:=[(3,[226])],sh:=[.a [0,8,3,3,5,4,5,4,0],.n] }
def xb:Ann:={}
def xd:Ann:={}
def wb:Ann:={}
def QaP:Ann:={ sh:=[.z 2] }
def qo:Ann:={ ord:=[(5,[0,1,2,4,5,9,10,3,6,7,8,11,12,13,14,15])],lp:=[(3,⟨[5,11,12,13],[.s 5 1,.s 11 5],[5],[.s 5 1]⟩)] }
def yk:Ann:={}
def uZ:Ann:={ jn:=[(2,(10,5,10))] }
def wj:Ann:={ jn:=[(4,(16,17,26)),(6,(26,27,35)),(8,(35,36,44))] }
def oW:Ann:={ lp:=[(3,⟨[1,5,9,10,11],[.s 5 1],[5],[.s 5 1]⟩)],sh:=[.z 1] }
def QaA:Ann:={}
def w5:Ann:={}
def oz:Ann:={ lp:=[(3,⟨[3,8,9,10],[.s 3 1],[3],[.s 3 1]⟩)] }
def pT:Ann:={ ord:=[(8,[0,1,2,5,6,10,11,14,3,4,7,8,9,12,13,15,16,17,18])],lp:=[(3,⟨[3,8,9,10],[.s 3 1],[3],[.s 3 1]⟩)] }
def yj:Ann:={}
def xo:Ann:={}
def yz:Ann:={}
def xG:Ann:={}
def ym:Ann:={}
def yq:Ann:={}
def Qa9:Ann:={}
def y5:Ann:={}
def y8:Ann:={}
def qe:Ann:={ ak:=[0],lp:=[(2,⟨[0,1,5],[.s 0 2],[0,1],[.s 0 2]⟩)] }
def pp:Ann:={ lp:=[(2,⟨[0,1,5],[],[1],[]⟩)],rt:=⟨[4],[],[],[]⟩ }
def zd:Ann:={}
def zi:Ann:={}
def QaB:Ann:={ jn:=[(1,(6,7,15))] }
def pO:Ann:={ lp:=[(3,⟨[0,3,4],[],[0,3],[]⟩)] }
def Qbh:Ann:={ jn:=[(1,(2,3,49))] }
def um:Ann:={ jn:=[(1,(2,3,21))] }
def ya:Ann:={ jn:=[(1,(5,6,14)),(5,(21,22,35)),(9,(45,46,58))] }
def qg:Ann:={ jn:=[(4,(61,10,61))],lp:=[(2,⟨[0,3],[],[0],[]⟩)],rt:=⟨[2],[],[],[]⟩ }
def jD:Ann:={ jn:=[(4,(53,11,53)),(9,(77,59,77))],lp:=[(2,⟨[0,3],[],[0],[]⟩),(7,⟨[0,3,4],[],[0,3],[]⟩)],rt:=⟨[2],[],[],[]⟩ }
def jh:Ann:={ jn:=[(5,(58,16,58)),(10,(84,64,84))],lp:=[(2,⟨[0,3],[],[0],[]⟩),(8,⟨[0,3,4,5],[.s 4 0],[0,3],[]⟩)],rt:=⟨[2],[],[],[]⟩ }
def oS:Ann:={ jn:=[(3,(15,7,15)),(7,(67,25,67)),(10,(96,73,96))],lp:=[(3,⟨[0,3,4],[],[0],[]⟩)],rt:=⟨[2],[],[],[]⟩ }
def qX:Ann:={ jn:=[(5,(58,15,58))],lp:=[(2,⟨[0,3],[],[0],[]⟩)],rt:=⟨[2],[],[],[]⟩ }
def fM:Ann:={ ord:=[(13,[0,1,2,3,4,5,6,7,8,9,10,11,14,15,12,13,16,17,18,19,20,21,22,23,24,25,26,27,28,29])],jn:=[(13,(77,48,77)),(18,(103,85,103))],lp:=[(5,⟨[1,3,4],[.s 1 0,.s 3 1],[1,3],[.s 1 0,.s 3 1]⟩),(10,⟨[1,3,5],[.s 1 0,.s 3 1],[1],[.s 1 0]⟩),(16,⟨[1,7],[.s 1 0],[],[]⟩)],rt:=⟨[2],[],[],[]⟩ }
def rA:Ann:={ ord:=[(8,[0,1,2,3,4,5,6,7,8,9,10,11,12,13,14,15,16,17,18,19,20,21,22,23,24,25,26,27,28,29,30,32,33,34,35,36,38,31,37,39,40,41,42,43,44,45,46,47])],jn:=[(8,(77,30,77))],lp:=[(4,⟨[1,3],[.s 1 0],[],[]⟩)],rt:=⟨[2],[],[],[]⟩ }
def qB:Ann:={ ot:=[(4,.one 1 (.one 2 (.one 3 (.one 8 (.one 9 (.one 10 (.alt (.one 0 (.alt (.one 4 (.one 5 (.one 6 (.one 7 (.one 11 (.one 12 (.done))))))) (.one 5 (.alt (.one 4 (.one 6 (.one 7 (.one 11 (.one 12 (.done)))))) (.one 6 (.one 4 (.one 7 (.one 11 (.one 12 (.done)))))))))) (.one 5 (.alt (.one 0 (.alt (.one 4 (.one 6 (.one 7 (.one 11 (.one 12 (.done)))))) (.one 6 (.one 4 (.one 7 (.one 11 (.one 12 (.done)))))))) (.one 6 (.one 0 (.one 4 (.one 7 (.one 11 (.one 12 (.done))))))))))))))))],jn:=[(2,(23,8,23))],lp:=[(2,⟨[0,3,6],[.s 3 0],[0,3,6],[.s 3 0]⟩)],sh:=[.z 8,.n] }
def qi:Ann:={ ot:=[(4,.one 0 (.one 1 (.one 2 (.one 4 (.one 8 (.one 9 (.one 10 (.alt (.one 3 (.one 5 (.one 6 (.one 7 (.one 11 (.one 12 (.one 13 (.done)))))))) (.one 5 (.one 3 (.one 6 (.one 7 (.one 11 (.one 12 (.one 13 (.done))))))))))))))))],jn:=[(2,(21,8,21))],lp:=[(2,⟨[0,3,6],[.s 3 0],[0,3,6],[.s 3 0]⟩)],sh:=[.z 3,.n] }
def qM:Ann:={ jn:=[(3,(34,16,34))],lp:=[(6,⟨[3,6,7,8],[.s 3 0,.s 6 3],[6],[.s 6 3]⟩)],sh:=[.z 3,.n] }
def uX:Ann:={ ot:=[(5,.one 1 (.alt (.one 0 (.alt (.one 2 (.one 3 (.one 4 (.one 5 (.one 6 (.done)))))) (.one 3 (.alt (.one 2 (.one 4 (.one 5 (.one 6 (.done))))) (.one 4 (.one 2 (.one 5 (.one 6 (.done))))))))) (.one 3 (.alt (.one 0 (.alt (.one 2 (.one 4 (.one 5 (.one 6 (.done))))) (.one 4 (.one 2 (.one 5 (.one 6 (.done))))))) (.one 4 (.one 0 (.one 2 (.one 5 (.one 6 (.done))))))))))],sh:=[.z 5,.n] }
def xK:Ann:={ jn:=[(1,(19,8,19))],sh:=[.a [0,8,3,3,5,4,5,4,0],.n] }
def qP:Ann:={ ot:=[(9,.one 1 (.one 2 (.one 3 (.one 8 (.one 9 (.one 10 (.alt (.one 0 (.alt (.one 4 (.one 5 (.one 6 (.one 7 (.one 11 (.one 12 (.done))))))) (.one 5 (.alt (.one 4 (.one 6 (.one 7 (.one 11 (.one 12 (.done)))))) (.one 6 (.one 4 (.one 7 (.one 11 (.one 12 (.done)))))))))) (.one 5 (.alt (.one 0 (.alt (.one 4 (.one 6 (.one 7 (.one 11 (.one 12 (.done)))))) (.one 6 (.one 4 (.one 7 (.one 11 (.one 12 (.done)))))))) (.one 6 (.one 0 (.one 4 (.one 7 (.one 11 (.one 12 (.done))))))))))))))))],jn:=[(6,(7,19,40)),(10,(67,62,67))],lp:=[(4,⟨[0,3,6,7,8],[.s 3 0],[0,3,6,7],[.s 3 0]⟩)],sh:=[.z 5,.n] }
def rr:Ann:={ jn:=[(4,(22,12,22))],lp:=[(2,⟨[0,1,5],[],[],[]⟩)],rt:=⟨[4],[],[],[]⟩ }
def wu:Ann:={}
def QaM:Ann:={ jn:=[(1,(5,6,19)),(3,(19,20,30))] }
def ov:Ann:={ jn:=[(5,(44,13,44))],lp:=[(3,⟨[0,1,5,6],[],[0,5],[]⟩)] }
def yG:Ann:={ sh:=[.a [0,8,3,3,5,4,5,4,0],.n] }
def ww:Ann:={ jn:=[(3,(24,18,24)),(6,(11,31,49)),(8,(60,54,60))],sh:=[.z 5,.n] }
def vf:Ann:={ sh:=[.a [0,8,3,3,5,4,5,4,0],.n] }
def xE:Ann:={ jn:=[(1,(12,5,12))] }
def zx:Ann:={ jn:=[(1,(12,5,12))] }
def xP:Ann:={ sh:=[.z 2] }
def Qa6:Ann:={ jn:=[(1,(4,5,13))] }
def qh:Ann:={ jn:=[(6,(42,25,42))],lp:=[(3,⟨[1,3,4],[.s 1 0,.s 3 1],[],[]⟩)],rt:=⟨[2],[],[],[]⟩ }
def oY:Ann:={ jn:=[(6,(46,23,46))],lp:=[(2,⟨[1,3],[.s 1 0],[],[]⟩)],rt:=⟨[2],[],[],[]⟩ }
def qc:Ann:={ jn:=[(6,(35,23,35)),(7,(48,36,48))],lp:=[(2,⟨[1,3],[.s 1 0],[],[]⟩)],rt:=⟨[2],[],[],[]⟩ }
def ow:Ann:={ jn:=[(7,(2,24,32))],lp:=[(4,⟨[1,3,4,5],[.s 1 0,.s 4 1],[1,3],[.s 1 0]⟩)] }
def vC:Ann:={ jn:=[(1,(19,7,19))] }
def qq:Ann:={ lp:=[(2,⟨[0,1,5],[],[],[]⟩)],rt:=⟨[4],[],[],[]⟩ }
def qk:Ann:={ lp:=[(3,⟨[0,1,5,6],[.s 5 5],[5],[.s 5 5]⟩)],sh:=[.z 5] }
def zg:Ann:={}
def yx:Ann:={}
def qN:Ann:={ lp:=[(3,⟨[0,3,4],[.s 3 2],[3],[.s 3 2]⟩)],sh:=[.z 2] }
def yS:Ann:={ sh:=[.z 2] }
def Qai:Ann:={}
def uF:Ann:={ jn:=[(1,(2,3,49))] }
def og:Ann:={ lp:=[(5,⟨[3,10,11,12],[.s 3 1],[3],[.s 3 1]⟩)] }
def xq:Ann:={}
def zW:Ann:={ jn:=[(1,(2,3,21))] }
def uq:Ann:={ jn:=[(1,(5,6,14))] }
def yr:Ann:={ ord:=[(1,[0,1,2,3,4,5,6,7,8,9,10,11,12,13,14,15,16,17,18,19,20,21,22,23,24,25,26,27,28,29,30,31,32,33,34,35,36,37,38,39,40,41,42,44,45,43,46,47,48,49,50,51,52,53])],jn:=[(1,(2,3,56))] }
def pD:Ann:={ av:=[(7,[305])],jn:=[(5,(32,17,32))],lp:=[(5,⟨[0,3,6,7],[.s 3 0,.s 6 8],[0,3,6,7],[.s 3 0,.s 6 8]⟩)],sh:=[.z 8,.n] }
def pY:Ann:={ av:=[(8,[306])],jn:=[(5,(29,16,29))],lp:=[(5,⟨[0,3,6,7],[.s 3 0,.s 6 3],[0,3,6,7],[.s 3 0,.s 6 3]⟩)],sh:=[.z 3,.n] }
def Qaj:Ann:={ jn:=[(3,(32,14,32))],sh:=[.z 3,.n] }
def xv:Ann:={ ot:=[(5,.one 0 (.one 2 (.alt (.one 1 (.one 3 (.one 4 (.one 5 (.done))))) (.one 3 (.one 1 (.one 4 (.one 5 (.done))))))))],sh:=[.z 5,.n] }
def kQ:Ann:={ jn:=[(1,(19,8,19))],sh:=[.a [0,8,3,3,5,4,5,4,0],.n] }
def pa:Ann:={ av:=[(7,[311])],jn:=[(2,(24,10,24)),(5,(39,26,39))],lp:=[(5,⟨[0,3,6,7],[.s 3 0,.s 6 5],[0,3,6,7],[.s 3 0,.s 6 5]⟩)],sh:=[.z 5,.n] }
def Qbb:Ann:={}
def wA:Ann:={}
def wi:Ann:={ jn:=[(1,(5,6,19)),(3,(19,20,30))] }
def Qat:Ann:={ jn:=[(3,(22,16,22)),(6,(47,29,47))],sh:=[.z 5,.n] }
def Qae:Ann:={ jn:=[(2,(24,11,24))] }
def qn:Ann:={ jn:=[(6,(35,16,35))],lp:=[(4,⟨[1,5,6,10,11,12],[.s 5 0],[5],[.s 5 0]⟩)] }
def Qa5:Ann:={ sh:=[.a [0,8,3,3,5,4,5,4,0],.n] }
def zY:Ann:={ jn:=[(1,(12,5,12))] }
def vA:Ann:={ ot:=[(1,.one 0 (.one 2 (.alt (.one 1 (.one 3 (.one 4 (.one 5 (.done))))) (.one 3 (.one 1 (.one 4 (.one 5 (.done))))))))],sh:=[.z 4,.n] }
def Qak:Ann:={ jn:=[(1,(12,5,12))] }
def xI:Ann:={ sh:=[.z 2] }
def yn:Ann:={ jn:=[(1,(6,7,15))] }
def QaC:Ann:={}
def PB:Ann:={ lp:=[(2,⟨[0,1,7,8],[],[],[]⟩)],rt:=⟨[4],[],[],[]⟩ }
def vv:Ann:={}
def vm:Ann:={ jn:=[(1,(19,7,19))] }
def vX:Ann:={}
def pK:Ann:={ lp:=[(3,⟨[1,5,9,10,11],[.s 5 5],[5],[.s 5 5]⟩)],sh:=[.z 5] }
def zu:Ann:={}
def qf:Ann:={ lp:=[(2,⟨[0,1,7,8],[],[],[]⟩)],rt:=⟨[4],[],[],[]⟩ }
def wR:Ann:={}
def v8:Ann:={ jn:=[(1,(4,5,13))] }
def kf:Ann:={}
def QaT:Ann:={ jn:=[(1,(3,4,14))] }
def qL:Ann:={ jn:=[(6,(58,15,58))],lp:=[(4,⟨[0,8,9,10],[],[],[]⟩)],rt:=⟨[2],[],[],[]⟩ }
def rn:Ann:={ lp:=[(3,⟨[1,5,8,9,10],[],[5],[]⟩)] }
def oU:Ann:={ lp:=[(5,⟨[1,5,12,13,14],[],[5],[]⟩)] }
def oL:Ann:={ jn:=[(6,(38,22,38))],lp:=[(3,⟨[1,3,13,14,15],[.s 1 0,.s 3 1],[],[]⟩)],rt:=⟨[2],[],[],[]⟩ }
def pi:Ann:={ jn:=[(4,(20,13,20)),(6,(38,26,38))],lp:=[(2,⟨[1,7,8,9],[.s 1 0],[],[]⟩)],rt:=⟨[2],[],[],[]⟩ }
def q9:Ann:={ jn:=[(4,(20,13,20)),(6,(38,26,38))],lp:=[(2,⟨[1,7,8,9],[.s 1 0],[],[]⟩)],rt:=⟨[2],[],[],[]⟩ }
def ql:Ann:={ jn:=[(7,(2,21,29))],lp:=[(3,⟨[1,3,8,9,10],[.s 1 0,.s 8 1],[1,3],[.s 1 0]⟩)] }
def yH:Ann:={}
def qZ:Ann:={ lp:=[(4,⟨[0,1,5],[],[],[]⟩)],rt:=⟨[4],[],[],[]⟩ }
def oh:Ann:={ jn:=[(4,(37,14,37))],lp:=[(2,⟨[0,1,2,7],[],[],[]⟩)],rt:=⟨[6],[],[],[]⟩ }
def zm:Ann:={ jn:=[(1,(2,3,18))] }
def yh:Ann:={ jn:=[(1,(2,3,26))] }
def qU:Ann:={ lp:=[(2,⟨[0,1,5],[],[],[]⟩)],rt:=⟨[4],[],[],[]⟩ }
def pB:Ann:={ jn:=[(4,(43,10,43))],lp:=[(2,⟨[0,3],[],[0],[]⟩)],rt:=⟨[2],[],[],[]⟩ }
def un:Ann:={}
def pW:Ann:={ lp:=[(3,⟨[0,1,2,7,8],[],[7],[]⟩)] }
def qS:Ann:={ jn:=[(3,(16,9,16)),(6,(42,28,42))],lp:=[(3,⟨[0,1,5,6],[.s 5 1],[5],[.s 5 1]⟩)],sh:=[.z 1] }
def wk:Ann:={ jn:=[(1,(2,3,26))] }
def oT:Ann:={ jn:=[(5,(44,13,44))],lp:=[(3,⟨[0,1,5,6],[],[0,5],[]⟩)] }
def oA:Ann:={ lp:=[(2,⟨[0,1,5],[],[],[]⟩)],rt:=⟨[4],[],[],[]⟩ }
def uU:Ann:={}
def qj:Ann:={ jn:=[(3,(21,15,21))],lp:=[(6,⟨[6,7,8],[.s 6 3],[6],[.s 6 3]⟩)],sh:=[.z 3,.n] }
def uE:Ann:={ ot:=[(1,.one 1 (.alt (.one 0 (.alt (.one 2 (.one 3 (.one 4 (.one 5 (.one 6 (.done)))))) (.one 3 (.alt (.one 2 (.one 4 (.one 5 (.one 6 (.done))))) (.one 4 (.one 2 (.one 5 (.one 6 (.done))))))))) (.one 3 (.alt (.one 0 (.alt (.one 2 (.one 4 (.one 5 (.one 6 (.done))))) (.one 4 (.one 2 (.one 5 (.one 6 (.done))))))) (.one 4 (.one 0 (.one 2 (.one 5 (.one 6 (.done))))))))))],sh:=[.z 4,.n] }
def y9:Ann:={}
def ky:Ann:={ jn:=[(4,(26,11,26))],lp:=[(2,⟨[0,3],[],[0],[]⟩),(7,⟨[0,3,4],[],[0,3],[]⟩)],rt:=⟨[2],[],[],[]⟩ }
def jf:Ann:={ ot:=[(8,.one 1 (.one 2 (.one 3 (.one 5 (.one 6 (.one 11 (.one 12 (.one 13 (.alt (.one 0 (.alt (.one 4 (.one 7 (.one 8 (.one 9 (.one 10 (.one 14 (.one 15 (.done)))))))) (.one 7 (.alt (.one 4 (.one 8 (.one 9 (.one 10 (.one 14 (.one 15 (.done))))))) (.one 8 (.alt (.one 4 (.one 9 (.one 10 (.one 14 (.one 15 (.done)))))) (.one 9 (.one 4 (.one 10 (.one 14 (.one 15 (.done)))))))))))) (.one 7 (.alt (.one 0 (.alt (.one 4 (.one 8 (.one 9 (.one 10 (.one 14 (.one 15 (.done))))))) (.one 8 (.alt (.one 4 (.one 9 (.one 10 (.one 14 (.one 15 (.done)))))) (.one 9 (.one 4 (.one 10 (.one 14 (.one 15 (.done)))))))))) (.one 8 (.alt (.one 0 (.alt (.one 4 (.one 9 (.one 10 (.one 14 (.one 15 (.done)))))) (.one 9 (.one 4 (.one 10 (.one 14 (.one 15 (.done)))))))) (.one 9 (.one 0 (.one 4 (.one 10 (.one 14 (.one 15 (.done))))))))))))))))))))],fz:=[(8,[3])],jn:=[(6,(30,15,30))],lp:=[(3,⟨[0,3,4],[.s 3 3],[3],[.s 3 3]⟩),(6,⟨[0,3,4,5],[.s 3 3],[0,3,4,5],[.s 3 3]⟩)],sh:=[.z 3] }
def fB:Ann:={ jn:=[(9,(43,31,43))],lp:=[(4,⟨[0,1,5,6,7],[.s 5 1],[0,1,5,6],[.s 5 1]⟩),(13,⟨[0,1,5,6,8,9],[.s 5 1],[5,8],[.s 5 1]⟩),(18,⟨[5,8,10],[.s 5 1],[5],[.s 5 1]⟩)],rt:=⟨[4],[.s 4 1],[],[]⟩,sh:=[.z 1] }
def zD:Ann:={}
def pf:Ann:={ jn:=[(4,(41,13,41))],lp:=[(2,⟨[2,3,5],[.s 2 0,.s 3 0],[],[]⟩)],rt:=⟨[4],[],[],[]⟩ }
def qA:Ann:={ ord:=[(5,[0,1,2,3,4,5,7,8,9,10,11,6,12,13])],lp:=[(3,⟨[0,3,4],[.s 3 1],[3],[.s 3 1]⟩)],sh:=[.z 1] }
def yT:Ann:={}
def oC:Ann:={ lp:=[(3,⟨[0,3,4],[],[3],[]⟩)] }
def yZ:Ann:={}
def qD:Ann:={ jn:=[(4,(33,16,33))],lp:=[(2,⟨[0,1,2,9,10,11],[],[],[]⟩)],rt:=⟨[6],[],[],[]⟩ }
def vB:Ann:={ jn:=[(1,(2,3,18))] }
def z7:Ann:={ jn:=[(1,(2,3,26))] }
def Qaa:Ann:={ jn:=[(1,(4,5,13))] }
def qm:Ann:={ jn:=[(6,(51,15,51))],lp:=[(4,⟨[0,8,9,10],[],[],[]⟩)],rt:=⟨[2],[],[],[]⟩ }
def pV:Ann:={ jn:=[(6,(54,15,54))],lp:=[(4,⟨[0,8,9,10],[],[],[]⟩)],rt:=⟨[2],[],[],[]⟩ }
def lF:Ann:={ jn:=[(6,(59,17,59)),(11,(82,68,82))],lp:=[(4,⟨[0,10,11,12],[],[],[]⟩),(9,⟨[0,4,10,11,12,62,63,64],[.s 4 0],[0,10,11,12],[]⟩)],rt:=⟨[2],[],[],[]⟩ }
def qb:Ann:={ jn:=[(7,(61,17,61)),(13,(83,73,83))],lp:=[(5,⟨[0,3,10,11,12],[],[],[]⟩)],rt:=⟨[2],[],[],[]⟩ }
def fH:Ann:={ ord:=[(7,[0,1,2,3,4,5,6,7,8,9,10,11,12,13,14,15,18,19,20,21,16,17,22,23,24])],jn:=[(7,(54,30,54)),(13,(73,63,73))],lp:=[(5,⟨[1,3,23,24,25],[.s 1 0,.s 3 1],[1,3],[.s 1 0,.s 3 1]⟩),(11,⟨[1,3,57,58,59],[.s 1 0,.s 3 1],[1,3],[.s 1 0,.s 3 1]⟩),(17,⟨[1,75,76,77],[.s 1 0,.s 75 1],[],[]⟩)],rt:=⟨[2],[],[],[]⟩ }
def qV:Ann:={ ord:=[(7,[0,1,2,3,4,5,6,7,8,9,10,11,12,13,14,15,16,17,18,19,20,21,22,24,26,27,23,25,28,29,30])],jn:=[(7,(56,26,56))],lp:=[(4,⟨[1,14,15,16],[.s 1 0],[],[]⟩)],rt:=⟨[2],[],[],[]⟩ }
def cV:Ann:={ lp:=[(3,⟨[1,3,13,14,15],[.s 1 0],[1,3],[.s 1 0]⟩),(8,⟨[1,3,25,26,27],[.s 1 0],[1,3],[.s 1 0]⟩),(13,⟨[1,3,37,38,39],[.s 1 0],[1,3],[.s 1 0]⟩),(18,⟨[3,49,50,51],[],[3],[]⟩)] }
def qx:Ann:={ jn:=[(5,(37,15,37))],lp:=[(3,⟨[0,1,5,8,9,10],[],[5],[]⟩)] }
def wh:Ann:={}
def zU:Ann:={}
def QaZ:Ann:={ jn:=[(1,(3,4,16))] }
def qE:Ann:={ lp:=[(2,⟨[0,1,7,8],[],[],[]⟩)],rt:=⟨[4],[],[],[]⟩ }
def Qba:Ann:={}
def qQ:Ann:={ lp:=[(2,⟨[1,7,8,9],[],[],[]⟩)],rt:=⟨[4],[],[],[]⟩ }
def Qa2:Ann:={ jn:=[(1,(2,3,26))] }
def pl:Ann:={ jn:=[(6,(39,15,39))],lp:=[(4,⟨[0,8,9,10],[],[],[]⟩)],rt:=⟨[2],[],[],[]⟩ }
def xJ:Ann:={}
def yI:Ann:={ jn:=[(3,(19,13,19))],sh:=[.z 3,.n] }
def oK:Ann:={ jn:=[(6,(24,15,24))],lp:=[(4,⟨[0,8,9,10],[],[],[]⟩)],rt:=⟨[2],[],[],[]⟩ }
def QaU:Ann:={ ac:=[(2,0)],sh:=[.z 3] }
def fu:Ann:={ jn:=[(2,(23,15,23))],lp:=[(6,⟨[0,1,5,6,25,26,27],[.s 5 1],[0,1,5,6],[.s 5 1]⟩),(16,⟨[0,5,6,9,43,44,45],[.s 5 1],[5,9],[.s 5 1]⟩),(23,⟨[5,9,13],[.s 5 1],[5],[.s 5 1]⟩)],rt:=⟨[4],[.s 4 1],[],[]⟩,sh:=[.z 1] }
def ry:Ann:={ lp:=[(2,⟨[0,1,7,8],[],[],[]⟩)],rt:=⟨[4],[],[],[]⟩ }
def uR:Ann:={}
def qW:Ann:={ lp:=[(3,⟨[3,6,7,8],[],[3],[]⟩)] }
def qd:Ann:={ lp:=[(2,⟨[0,1,7,8],[],[],[]⟩)],rt:=⟨[4],[],[],[]⟩ }
def QaQ:Ann:={}
def xH:Ann:={}
def pd:Ann:={ ac:=[(10,0)],jn:=[(7,(36,20,36))],lp:=[(5,⟨[0,1,5,13,14,15],[.s 5 1],[5],[.s 5 1]⟩)],sh:=[.z 1] }
def pP:Ann:={ lp:=[(2,⟨[0,1,5],[],[],[]⟩)],rt:=⟨[4],[],[],[]⟩ }
def yD:Ann:={}
def vW:Ann:={ jn:=[(1,(4,5,14))] }
def rc:Ann:={ lp:=[(3,⟨[3,7,8,9],[.s 3 1],[3],[.s 3 1]⟩)],sh:=[.z 1] }
def xF:Ann:={}
def pc:Ann:={ ot:=[(6,.one 1 (.one 2 (.one 3 (.one 5 (.one 8 (.one 9 (.one 10 (.alt (.one 0 (.alt (.one 4 (.one 6 (.one 7 (.one 11 (.one 12 (.done)))))) (.one 6 (.one 4 (.one 7 (.one 11 (.one 12 (.done)))))))) (.one 6 (.one 0 (.one 4 (.one 7 (.one 11 (.one 12 (.done)))))))))))))))],jn:=[(2,(17,6,17)),(4,(31,20,31))],lp:=[(2,⟨[0,1,5],[],[0,1,5],[]⟩)],sh:=[.z 1] }
def Qbd:Ann:={ jn:=[(5,(10,11,17))] }
def xn:Ann:={}
def uJ:Ann:={}
def pe:Ann:={ lp:=[(2,⟨[0,1,7,8],[],[],[]⟩)],rt:=⟨[4],[],[],[]⟩ }
def zL:Ann:={ jn:=[(1,(2,3,11))] }
def uj:Ann:={}
def xa:Ann:={}
def QaY:Ann:={ sh:=[.z 3] }
def Qbc:Ann:={ ak:=[0],ac:=[(0,0)] }
def vz:Ann:={}
def Qay:Ann:={}
def xU:Ann:={}
def ut:Ann:={}
def qp:Ann:={ lp:=[(2,⟨[0,1,7,8],[],[],[]⟩)],rt:=⟨[4],[],[],[]⟩ }
def uo:Ann:={ jn:=[(1,(3,4,21))] }
def xV:Ann:={ ac:=[(2,0),(3,0)],sh:=[.z 1] }
def rj:Ann:={ lp:=[(2,⟨[0,1,7,8],[],[],[]⟩)],rt:=⟨[4],[],[],[]⟩ }
def fA:Ann:={ ak:=[0],ac:=[(3,0),(6,0)],lp:=[(2,⟨[0,1,2,6,7,8],[.s 0 3],[0,1,2,6,7],[.s 0 3]⟩),(7,⟨[0,1,2,6],[.s 0 3],[0],[.s 0 3]⟩),(9,⟨[0,1,2,6,7,8],[.s 0 3],[0,1,2,6,7],[.s 0 3]⟩)] }
def w7:Ann:={}
def uP:Ann:={}
def kl:Ann:={ lp:=[(3,⟨[0,3,9,10,11],[],[0,3],[]⟩),(11,⟨[6,25,26,27],[.s 6 1],[6],[.s 6 1]⟩)],sh:=[.z 1] }
def jx:Ann:={ ak:=[0],jn:=[(4,(34,18,34))],lp:=[(1,⟨[0,1,2,3,8],[.s 0 3],[0],[.s 0 3]⟩),(4,⟨[0,1,2,3,8,9],[.s 0 3],[0,1,2,3,8],[.s 0 3]⟩)] }
noncomputable def T:Tld:={ P:=prog,ann:=[(3,An3),(4,An4),(5,An5),(6,An6),(7,An7),(8,An8),(9,An9),(10,Qju),(11,Qk9),(12,QbQ),(13,QhG),(14,Qj1),(15,QhO),(16,QhE),(17,Qir),(18,QbG),(19,QhL),(20,Qkx),(21,QkQ),(22,Qcy),(23,Qdb),(24,QeS),(25,QjW),(26,Qhl),(27,QhX),(28,Qh1),(29,Qhx),(30,Qg3),(31,Qjx),(32,Qeg),(33,Qci),(34,Qcu),(35,QcR),(36,QeQ),(37,QdH),(38,Qca),(40,QiA),(41,Qjv),(42,Qi0),(44,QeR),(45,Qdr),(46,Qdq),(47,QhM),(48,Qi5),(49,Qcr),(50,Qd7),(51,Qcc),(52,QbF),(53,QdI),(54,QdE),(55,QbI),(56,QbP),(57,Qd9),(58,QeC),(59,Qey),(60,Qbu),(61,QbU),(62,Qbw),(63,Qdg),(64,Qep),(65,QdB),(66,Qet),(67,QbV),(68,Qbr),(69,QbT),(70,Qho),(71,QdF),(72,Qda),(73,QdD),(74,Qec),(75,QdR),(76,QiP),(77,QkD),(78,QbN),(79,Qei),(80,QeM),(81,Qk2),(82,QkJ),(83,QdW),(84,Qj9),(85,Qd1),(86,QkE),(87,Qjn),(88,Qh8),(89,Qg8),(90,Qkz),(91,QeI),(92,QdT),(93,QcY),(94,Qg1),(95,Qjh),(96,QeK),(97,QcF),(98,Qhh),(99,QiC),(100,rp),(101,qF),(102,xe),(103,oM),(104,vM),(105,pF),(106,vq),(107,uC),(108,Qbg),(109,zF),(110,zI),(111,Qac),(112,yE),(114,QaL),(115,oE),(116,yw),(117,ux),(118,zG),(119,yp),(120,yu),(121,rz),(122,pj),(123,QaH),(124,oO),(125,wZ),(129,uv),(130,zw),(131,pI),(132,zf),(133,wP),(134,zQ),(135,zc),(136,Qa3),(137,zR),(138,vS),(139,uB),(140,QaX),(141,vG),(142,xb),(143,xd),(144,wb),(145,QaP),(146,qo),(147,yk),(148,uZ),(149,wj),(150,oW),(151,QaA),(152,w5),(153,oz),(154,pT),(155,yj),(156,xo),(157,yz),(158,xG),(159,ym),(160,yq),(161,Qa9),(162,y5),(163,y8),(164,qe),(165,pp),(166,zd),(167,zi),(168,QaB),(169,pO),(170,Qbh),(171,um),(172,ya),(173,qg),(174,jD),(175,jh),(176,oS),(177,qX),(178,fM),(179,rA),(180,qB),(181,qi),(182,qM),(183,uX),(184,xK),(185,qP),(186,rr),(187,wu),(188,QaM),(189,ov),(190,yG),(191,ww),(192,vf),(193,xE),(194,zx),(195,xP),(196,Qa6),(197,qh),(198,oY),(199,qc),(200,ow),(201,vC),(202,qq),(203,qk),(204,zg),(205,yx),(206,qN),(210,yS),(212,Qai),(213,uF),(214,og),(215,xq),(219,zW),(220,uq),(221,yr),(222,pD),(223,pY),(224,Qaj),(225,xv),(226,kQ),(227,pa),(228,Qbb),(230,wA),(231,wi),(232,Qat),(233,Qae),(234,qn),(235,Qa5),(236,zY),(237,vA),(238,Qak),(239,xI),(240,yn),(241,QaC),(242,PB),(243,vv),(244,vm),(245,vX),(246,pK),(247,zu),(248,qf),(249,wR),(250,v8),(251,kf),(252,QaT),(253,qL),(254,rn),(255,oU),(256,oL),(257,pi),(258,q9),(259,ql),(260,yH),(261,qZ),(262,oh),(263,zm),(264,yh),(265,qU),(266,pB),(267,un),(268,pW),(269,qS),(270,wk),(271,oT),(272,oA),(273,uU),(274,qj),(275,uE),(276,y9),(277,ky),(278,jf),(279,fB),(280,zD),(281,pf),(282,qA),(283,yT),(284,oC),(285,yZ),(291,qD),(292,vB),(296,z7),(297,Qaa),(298,qm),(299,pV),(300,lF),(301,qb),(302,fH),(303,qV),(304,cV),(307,qx),(308,wh),(309,zU),(310,QaZ),(312,qE),(313,Qba),(316,qQ),(317,Qa2),(318,pl),(319,xJ),(320,yI),(321,oK),(322,QaU),(323,fu),(324,ry),(325,uR),(326,qW),(327,qd),(328,QaQ),(329,xH),(330,pd),(331,pP),(332,yD),(333,vW),(334,rc),(335,xF),(336,pc),(337,Qbd),(344,xn),(345,uJ),(350,pe),(354,zL),(355,uj),(356,xa),(357,QaY),(358,Qbc),(359,vz),(360,Qay),(361,xU),(362,ut),(364,qp),(365,uo),(366,xV),(377,rj),(378,fA),(379,w7),(380,uP),(383,kl),(393,jx)],xt:=xt,st:=λg=>Nat.beq g 363,qt:=λg=>Nat.beq g 384,pz:=[(19,[.a [0,8,3,3,5,4,5,4,0]]),(221,[.a [0,8,3,3,5,4,5,4,0]]),(309,[.z 1,.n])],vt:=λg=>Nat.beq g 27||Nat.beq g 184||Nat.beq g 192||Nat.beq g 226||Nat.beq g 229||Nat.beq g 305||Nat.beq g 306||Nat.beq g 311,mt:=mt }
def TP:T.P=prog:=Qj
def TZ:T.pz=[(19,[.a [0,8,3,3,5,4,5,4,0]]),(221,[.a [0,8,3,3,5,4,5,4,0]]),(309,[.z 1,.n])]:=Qj
def Qb6(n:Nat)(args:List AV):CP T n 394 args=none:=by
 cases n with
 |zero=>rfl
 |succ n=>rw[s9 T n 394 args (by kernel_rfl)];first|rfl|(show xt 394 args=none;unfold xt;split<;>first|rfl|(rw[if_neg (by decide)]))
def eY:=aI evT<|aI QsL<|aI @Qt8<|aI @bO<|@T7
def eZ:=Qk Xw evT tys QsL TP TZ<|aI (@Qoi T)<|aI (@QsJ T)<|aI (@Qo3 T)<|aI @Qb6<|@Qsx T
def IR(n:Nat)(s t:List UInt8):CP T (n+1) 39 [.s s,.s t]=(strings_Split s t).map λr=>.own 1 (r.map Ij):=by rw[s9 T n 39 _ (by kernel_rfl)];rfl
def FB(n:Nat){R}{l:List (List UInt8)}(s:List UInt8)[A:QC Ij R l]:CP T (n+1) 43 [.imm 1 R,.s s]=(strings_Join l s).map λr=>.s r:=by
 obtain⟨rfl⟩:=A;rw[s9 T n 43 _ (by kernel_rfl)]
 show(RS (l.map Ij)).bind _=_;rw[bP];rfl
def ep(n:Nat)(s t:List UInt8):CP T (n+1) 211 [.s s,.s t]=(strings_Cut s t).map λr=>.tup [.s r.1,.s r.2.1,.b r.2.2]:=by rw[s9 T n 211 _ (by kernel_rfl)];rfl
def ci(n:Nat)(x:Int):CP T (n+1) 218 [.i .i64 x]=(strconv_Itoa x).map λr=>.s r:=by rw[s9 T n 218 _ (by kernel_rfl)];rfl
def Si(n:Nat)(x:Int):CP T (n+1) 405 [.nil,.i .i64 x]=(Cv x).map λr=>.own 1 (r.map Q9):=by rw[s9 T n 405 _ (by kernel_rfl)];rfl
def Qdu(n:Nat){R}{xs:List Qp}(i:Int){V}{ys:List Qp}[A:QC Vq R xs][B:QC Vq V ys]:CM T (n+1) 229 [some (.lst 4 R),some (.lst 4 V)] [.sl 0,.i .i64 i,.sl 1]=V9 (IK xs i ys 32) (some (.own 4 ((VY xs i ys).map Vq))) ():=by
 rcases A,B with⟨⟨rfl⟩,⟨rfl⟩⟩
 rw[QdZ T n 229 _ _ (by kernel_rfl)]
 show(if 4=4∧4=4∧Vd (xs.map Vq)=true∧Vd (ys.map Vq)=true then V9 (IK (xs.map Vq) i (ys.map Vq) 32) (some (AV.own 4 (VY (xs.map Vq) i (ys.map Vq)))) ()else none)=_
 rw[if_pos ⟨rfl,rfl,SY xs,SY ys⟩,ie,iW]
def Qch(n:Nat){R}{xs:List QB}(i:Int){V}{ys:List QB}[A:QC Vn R xs][B:QC Vn V ys]:CM T (n+1) 305 [some (.lst 8 R),some (.lst 8 V)] [.sl 0,.i .i64 i,.sl 1]=V9 (IK xs i ys 64) (some (.own 8 ((VY xs i ys).map Vn))) ():=by
 rcases A,B with⟨⟨rfl⟩,⟨rfl⟩⟩
 rw[QdZ T n 305 _ _ (by kernel_rfl)]
 show(if 8=8∧8=8∧Vd (xs.map Vn)=true∧Vd (ys.map Vn)=true then V9 (IK (xs.map Vn) i (ys.map Vn) 64) (some (AV.own 8 (VY (xs.map Vn) i (ys.map Vn)))) ()else none)=_
 rw[if_pos ⟨rfl,rfl,Y0 xs,Y0 ys⟩,ie,iW]
def QcO(n:Nat){R}{xs:List Qm}(i:Int){V}{ys:List Qm}[A:QC VF R xs][B:QC VF V ys]:CM T (n+1) 306 [some (.lst 3 R),some (.lst 3 V)] [.sl 0,.i .i64 i,.sl 1]=V9 (IK xs i ys 40) (some (.own 3 ((VY xs i ys).map VF))) ():=by
 rcases A,B with⟨⟨rfl⟩,⟨rfl⟩⟩
 rw[QdZ T n 306 _ _ (by kernel_rfl)]
 show(if 3=3∧3=3∧Vd (xs.map VF)=true∧Vd (ys.map VF)=true then V9 (IK (xs.map VF) i (ys.map VF) 40) (some (AV.own 3 (VY (xs.map VF) i (ys.map VF)))) ()else none)=_
 rw[if_pos ⟨rfl,rfl,OB xs,OB ys⟩,ie,iW]
def QeY(n:Nat){R}{xs:List Qu}(i:Int){V}{ys:List Qu}[A:QC QZ R xs][B:QC QZ V ys]:CM T (n+1) 311 [some (.lst 5 R),some (.lst 5 V)] [.sl 0,.i .i64 i,.sl 1]=V9 (IK xs i ys 40) (some (.own 5 ((VY xs i ys).map QZ))) ():=by
 rcases A,B with⟨⟨rfl⟩,⟨rfl⟩⟩
 rw[QdZ T n 311 _ _ (by kernel_rfl)]
 show(if 5=5∧5=5∧Vd (xs.map QZ)=true∧Vd (ys.map QZ)=true then V9 (IK (xs.map QZ) i (ys.map QZ) 40) (some (AV.own 5 (VY (xs.map QZ) i (ys.map QZ)))) ()else none)=_
 rw[if_pos ⟨rfl,rfl,SP xs,SP ys⟩,ie,iW]
def QxF:cI=Q9:=Qj
def Qk1(xs:List Int):Hr (xs.map Q9)=some xs:=lU xs
def Qig:T.st 363=true:=by kernel_rfl
def Qhf:T.st 384=false:=by kernel_rfl
def Qhy:T.qt 384=true:=by kernel_rfl
def Qxg:T.st 9=false:=by kernel_rfl
def QvY:T.qt 9=false:=by kernel_rfl
def QwN:T.wt 9=true:=by kernel_rfl
def QxD:T.vt 9=false:=by kernel_rfl
def Qp0:T.st 27=false:=by kernel_rfl
def Qsj:T.qt 27=false:=by kernel_rfl
def QqF:T.wt 27=false:=by kernel_rfl
def Qlk:T.vt 27=true:=by kernel_rfl
def QqS:T.st 56=false:=by kernel_rfl
def QoQ:T.qt 56=false:=by kernel_rfl
def Qq7:T.wt 56=true:=by kernel_rfl
def QrA:T.vt 56=false:=by kernel_rfl
def QqX:T.st 57=false:=by kernel_rfl
def QqM:T.qt 57=false:=by kernel_rfl
def Qo5:T.wt 57=true:=by kernel_rfl
def Qmt:T.vt 57=false:=by kernel_rfl
def Qsg:T.st 58=false:=by kernel_rfl
def Qtb:T.qt 58=false:=by kernel_rfl
def Qn1:T.wt 58=true:=by kernel_rfl
def Qs5:T.vt 58=false:=by kernel_rfl
def QrX:T.st 59=false:=by kernel_rfl
def QnS:T.qt 59=false:=by kernel_rfl
def QnW:T.wt 59=true:=by kernel_rfl
def QpX:T.vt 59=false:=by kernel_rfl
def QpS:T.st 60=false:=by kernel_rfl
def Qra:T.qt 60=false:=by kernel_rfl
def Qmd:T.wt 60=true:=by kernel_rfl
def Qoe:T.vt 60=false:=by kernel_rfl
def QqN:T.st 61=false:=by kernel_rfl
def Qtg:T.qt 61=false:=by kernel_rfl
def QmK:T.wt 61=true:=by kernel_rfl
def Qtv:T.vt 61=false:=by kernel_rfl
def Qnp:T.st 62=false:=by kernel_rfl
def QmD:T.qt 62=false:=by kernel_rfl
def Qrc:T.wt 62=true:=by kernel_rfl
def QqZ:T.vt 62=false:=by kernel_rfl
def Qil:T.st 164=false:=by kernel_rfl
def Qj7:T.qt 164=false:=by kernel_rfl
def Qlb:T.wt 164=true:=by kernel_rfl
def Qk3:T.vt 164=false:=by kernel_rfl
def QhB:T.st 184=false:=by kernel_rfl
def Qkn:T.qt 184=false:=by kernel_rfl
def QjH:T.wt 184=false:=by kernel_rfl
def QhI:T.vt 184=true:=by kernel_rfl
def QiN:T.st 192=false:=by kernel_rfl
def QhF:T.qt 192=false:=by kernel_rfl
def Qh0:T.wt 192=false:=by kernel_rfl
def QiH:T.vt 192=true:=by kernel_rfl
def QjP:T.st 226=false:=by kernel_rfl
def QkS:T.qt 226=false:=by kernel_rfl
def Qj8:T.wt 226=false:=by kernel_rfl
def QiT:T.vt 226=true:=by kernel_rfl
def Qhi:T.st 229=false:=by kernel_rfl
def QkW:T.qt 229=false:=by kernel_rfl
def Qkh:T.wt 229=false:=by kernel_rfl
def Qi1:T.vt 229=true:=by kernel_rfl
def Qla:T.st 305=false:=by kernel_rfl
def Qha:T.qt 305=false:=by kernel_rfl
def QhK:T.wt 305=false:=by kernel_rfl
def Qiv:T.vt 305=true:=by kernel_rfl
def QiI:T.st 306=false:=by kernel_rfl
def Qk7:T.qt 306=false:=by kernel_rfl
def QgY:T.wt 306=false:=by kernel_rfl
def Qjk:T.vt 306=true:=by kernel_rfl
def Qka:T.st 311=false:=by kernel_rfl
def Qi2:T.qt 311=false:=by kernel_rfl
def Qkg:T.wt 311=false:=by kernel_rfl
def QhT:T.vt 311=true:=by kernel_rfl
def Qhs:T.st 358=false:=by kernel_rfl
def QjG:T.qt 358=false:=by kernel_rfl
def QiF:T.wt 358=true:=by kernel_rfl
def Qiq:T.vt 358=false:=by kernel_rfl
def Qjb:T.st 378=false:=by kernel_rfl
def Qky:T.qt 378=false:=by kernel_rfl
def Qk0:T.wt 378=true:=by kernel_rfl
def Qku:T.vt 378=false:=by kernel_rfl
def Qjc:T.st 393=false:=by kernel_rfl
def Qkc:T.qt 393=false:=by kernel_rfl
def Qhj:T.wt 393=true:=by kernel_rfl
def Qi9:T.vt 393=false:=by kernel_rfl
def Ni:=Qk @QxF @Qk1 @QpY @Qll @Qrb @Qsd<|Qk @Qig @Qhf @Qhy @Qxg @QvY @QwN<|Qk @QxD @Qp0 @Qsj @QqF @Qlk @QqS<|Qk @QoQ @Qq7 @QrA @QqX @QqM @Qo5<|Qk @Qmt @Qsg @Qtb @Qn1 @Qs5 @QrX<|Qk @QnS @QnW @QpX @QpS @Qra @Qmd<|Qk @Qoe @QqN @Qtg @QmK @Qtv @Qnp<|Qk @QmD @Qrc @QqZ @Qil @Qj7 @Qlb<|Qk @Qk3 @QhB @Qkn @QjH @QhI @QiN<|Qk @QhF @Qh0 @QiH @QjP @QkS @Qj8<|Qk @QiT @Qhi @QkW @Qkh @Qi1 @Qla<|Qk @Qha @QhK @Qiv @QiI @Qk7 @QgY<|Qk @Qjk @Qka @Qi2 @Qkg @QhT @Qhs<|Qk @QjG @QiF @Qiq @Qjb @Qky @Qk0<|aI @Qku<|aI @Qjc<|aI @Qkc<|aI @Qhj @Qi9
def Aa3:T.at 3=some An3:=by kernel_rfl
def Aa4:T.at 4=some An4:=by kernel_rfl
def Aa5:T.at 5=some An5:=by kernel_rfl
def Aa6:T.at 6=some An6:=by kernel_rfl
def Aa7:T.at 7=some An7:=by kernel_rfl
def Aa8:T.at 8=some An8:=by kernel_rfl
def Aa9:T.at 9=some An9:=by kernel_rfl
def Qx1:T.at 10=some Qju:=by kernel_rfl
def Qwd:T.at 11=some Qk9:=by kernel_rfl
def Qrl:T.at 12=some QbQ:=by kernel_rfl
def Qvf:T.at 13=some QhG:=by kernel_rfl
def QwS:T.at 14=some Qj1:=by kernel_rfl
def QxZ:T.at 15=some QhO:=by kernel_rfl
def Qws:T.at 16=some QhE:=by kernel_rfl
def Qx3:T.at 17=some Qir:=by kernel_rfl
def Qm1:T.at 18=some QbG:=by kernel_rfl
def Qut:T.at 19=some QhL:=by kernel_rfl
def QxP:T.at 20=some Qkx:=by kernel_rfl
def QwQ:T.at 21=some QkQ:=by kernel_rfl
def Qlu:T.at 22=some Qcy:=by kernel_rfl
def Qsa:T.at 23=some Qdb:=by kernel_rfl
def Qtn:T.at 24=some QeS:=by kernel_rfl
def QuJ:T.at 25=some QjW:=by kernel_rfl
def Qxu:T.at 26=some Qhl:=by kernel_rfl
def Qwq:T.at 27=some QhX:=by kernel_rfl
def Qv5:T.at 28=some Qh1:=by kernel_rfl
def Qx0:T.at 29=some Qhx:=by kernel_rfl
def Qxn:T.at 30=some Qg3:=by kernel_rfl
def QvK:T.at 31=some Qjx:=by kernel_rfl
def Qpu:T.at 32=some Qeg:=by kernel_rfl
def Qny:T.at 33=some Qci:=by kernel_rfl
def QnX:T.at 34=some Qcu:=by kernel_rfl
def Qsc:T.at 35=some QcR:=by kernel_rfl
def QoE:T.at 36=some QeQ:=by kernel_rfl
def QsD:T.at 37=some QdH:=by kernel_rfl
def QnV:T.at 38=some Qca:=by kernel_rfl
def Qw5:T.at 40=some QiA:=by kernel_rfl
def QwE:T.at 41=some Qjv:=by kernel_rfl
def QvE:T.at 42=some Qi0:=by kernel_rfl
def Qq4:T.at 44=some QeR:=by kernel_rfl
def Qnn:T.at 45=some Qdr:=by kernel_rfl
def Qtm:T.at 46=some Qdq:=by kernel_rfl
def QwW:T.at 47=some QhM:=by kernel_rfl
def Qwk:T.at 48=some Qi5:=by kernel_rfl
def Qok:T.at 49=some Qcr:=by kernel_rfl
def Qo9:T.at 50=some Qd7:=by kernel_rfl
def QsZ:T.at 51=some Qcc:=by kernel_rfl
def QsH:T.at 52=some QbF:=by kernel_rfl
def QrR:T.at 53=some QdI:=by kernel_rfl
def Qp4:T.at 54=some QdE:=by kernel_rfl
def Qml:T.at 55=some QbI:=by kernel_rfl
def Ql8:T.at 56=some QbP:=by kernel_rfl
def QnO:T.at 57=some Qd9:=by kernel_rfl
def QoM:T.at 58=some QeC:=by kernel_rfl
def QmH:T.at 59=some Qey:=by kernel_rfl
def Qnz:T.at 60=some Qbu:=by kernel_rfl
def Qp3:T.at 61=some QbU:=by kernel_rfl
def Qph:T.at 62=some Qbw:=by kernel_rfl
def Qrw:T.at 63=some Qdg:=by kernel_rfl
def QnP:T.at 64=some Qep:=by kernel_rfl
def Qlz:T.at 65=some QdB:=by kernel_rfl
def Qn8:T.at 66=some Qet:=by kernel_rfl
def Qmg:T.at 67=some QbV:=by kernel_rfl
def QrI:T.at 68=some Qbr:=by kernel_rfl
def QoG:T.at 69=some QbT:=by kernel_rfl
def Qv6:T.at 70=some Qho:=by kernel_rfl
def QnJ:T.at 71=some QdF:=by kernel_rfl
def QqG:T.at 72=some Qda:=by kernel_rfl
def Ql4:T.at 73=some QdD:=by kernel_rfl
def QqV:T.at 74=some Qec:=by kernel_rfl
def QoY:T.at 75=some QdR:=by kernel_rfl
def Quu:T.at 76=some QiP:=by kernel_rfl
def Qyn:T.at 77=some QkD:=by kernel_rfl
def Qtc:T.at 78=some QbN:=by kernel_rfl
def Qnl:T.at 79=some Qei:=by kernel_rfl
def Qsb:T.at 80=some QeM:=by kernel_rfl
def Qxr:T.at 81=some Qk2:=by kernel_rfl
def Qvy:T.at 82=some QkJ:=by kernel_rfl
def Qs2:T.at 83=some QdW:=by kernel_rfl
def Qyu:T.at 84=some Qj9:=by kernel_rfl
def QrZ:T.at 85=some Qd1:=by kernel_rfl
def Qyc:T.at 86=some QkE:=by kernel_rfl
def QxO:T.at 87=some Qjn:=by kernel_rfl
def Qyb:T.at 88=some Qh8:=by kernel_rfl
def Qxd:T.at 89=some Qg8:=by kernel_rfl
def Qwx:T.at 90=some Qkz:=by kernel_rfl
def QmM:T.at 91=some QeI:=by kernel_rfl
def QpW:T.at 92=some QdT:=by kernel_rfl
def Qqz:T.at 93=some QcY:=by kernel_rfl
def Qyw:T.at 94=some Qg1:=by kernel_rfl
def Qyz:T.at 95=some Qjh:=by kernel_rfl
def QoN:T.at 96=some QeK:=by kernel_rfl
def Qox:T.at 97=some QcF:=by kernel_rfl
def QwB:T.at 98=some Qhh:=by kernel_rfl
def Qv0:T.at 99=some QiC:=by kernel_rfl
def QfL:T.at 100=some rp:=by kernel_rfl
def Qgw:T.at 101=some qF:=by kernel_rfl
def QpK:T.at 102=some xe:=by kernel_rfl
def QfV:T.at 103=some oM:=by kernel_rfl
def QmA:T.at 104=some vM:=by kernel_rfl
def Qfm:T.at 105=some pF:=by kernel_rfl
def QlI:T.at 106=some vq:=by kernel_rfl
def QmE:T.at 107=some uC:=by kernel_rfl
def QnG:T.at 108=some Qbg:=by kernel_rfl
def QlA:T.at 109=some zF:=by kernel_rfl
def Qsi:T.at 110=some zI:=by kernel_rfl
def QpC:T.at 111=some Qac:=by kernel_rfl
def QqW:T.at 112=some yE:=by kernel_rfl
def QrW:T.at 114=some QaL:=by kernel_rfl
def Qfw:T.at 115=some oE:=by kernel_rfl
def Qn7:T.at 116=some yw:=by kernel_rfl
def QnA:T.at 117=some ux:=by kernel_rfl
def Qpc:T.at 118=some zG:=by kernel_rfl
def Qrs:T.at 119=some yp:=by kernel_rfl
def Qsw:T.at 120=some yu:=by kernel_rfl
def Qgs:T.at 121=some rz:=by kernel_rfl
def QfQ:T.at 122=some pj:=by kernel_rfl
def Qnc:T.at 123=some QaH:=by kernel_rfl
def Qgl:T.at 124=some oO:=by kernel_rfl
def Qo8:T.at 125=some wZ:=by kernel_rfl
def Qq3:T.at 129=some uv:=by kernel_rfl
def Qpv:T.at 130=some zw:=by kernel_rfl
def Qgj:T.at 131=some pI:=by kernel_rfl
def Qrn:T.at 132=some zf:=by kernel_rfl
def QmO:T.at 133=some wP:=by kernel_rfl
def Qov:T.at 134=some zQ:=by kernel_rfl
def Qmm:T.at 135=some zc:=by kernel_rfl
def Qoq:T.at 136=some Qa3:=by kernel_rfl
def QqR:T.at 137=some zR:=by kernel_rfl
def Qtr:T.at 138=some vS:=by kernel_rfl
def Qm9:T.at 139=some uB:=by kernel_rfl
def Qou:T.at 140=some QaX:=by kernel_rfl
def Qsz:T.at 141=some vG:=by kernel_rfl
def Qpk:T.at 142=some xb:=by kernel_rfl
def Qnb:T.at 143=some xd:=by kernel_rfl
def Qnu:T.at 144=some wb:=by kernel_rfl
def Qru:T.at 145=some QaP:=by kernel_rfl
def QfE:T.at 146=some qo:=by kernel_rfl
def Qp5:T.at 147=some yk:=by kernel_rfl
def Qmz:T.at 148=some uZ:=by kernel_rfl
def QmP:T.at 149=some wj:=by kernel_rfl
def QfS:T.at 150=some oW:=by kernel_rfl
def Qoh:T.at 151=some QaA:=by kernel_rfl
def QpD:T.at 152=some w5:=by kernel_rfl
def Qf3:T.at 153=some oz:=by kernel_rfl
def QgB:T.at 154=some pT:=by kernel_rfl
def Qtt:T.at 155=some yj:=by kernel_rfl
def QlM:T.at 156=some xo:=by kernel_rfl
def Qpd:T.at 157=some yz:=by kernel_rfl
def Qol:T.at 158=some xG:=by kernel_rfl
def QqQ:T.at 159=some ym:=by kernel_rfl
def Qoz:T.at 160=some yq:=by kernel_rfl
def Ql5:T.at 161=some Qa9:=by kernel_rfl
def Ql7:T.at 162=some y5:=by kernel_rfl
def QtC:T.at 163=some y8:=by kernel_rfl
def Qfi:T.at 164=some qe:=by kernel_rfl
def Qfr:T.at 165=some pp:=by kernel_rfl
def Qlg:T.at 166=some zd:=by kernel_rfl
def Qnt:T.at 167=some zi:=by kernel_rfl
def QnU:T.at 168=some QaB:=by kernel_rfl
def Qga:T.at 169=some pO:=by kernel_rfl
def Qnk:T.at 170=some Qbh:=by kernel_rfl
def Qnx:T.at 171=some um:=by kernel_rfl
def Qr2:T.at 172=some ya:=by kernel_rfl
def QgH:T.at 173=some qg:=by kernel_rfl
def zE:T.at 174=some jD:=by kernel_rfl
def wE:T.at 175=some jh:=by kernel_rfl
def QgD:T.at 176=some oS:=by kernel_rfl
def Qfl:T.at 177=some qX:=by kernel_rfl
def od:T.at 178=some fM:=by kernel_rfl
def QgS:T.at 179=some rA:=by kernel_rfl
def Qfk:T.at 180=some qB:=by kernel_rfl
def QgO:T.at 181=some qi:=by kernel_rfl
def QeZ:T.at 182=some qM:=by kernel_rfl
def QrL:T.at 183=some uX:=by kernel_rfl
def Qqx:T.at 184=some xK:=by kernel_rfl
def Qff:T.at 185=some qP:=by kernel_rfl
def Qgn:T.at 186=some rr:=by kernel_rfl
def QnH:T.at 187=some wu:=by kernel_rfl
def Qn6:T.at 188=some QaM:=by kernel_rfl
def QfJ:T.at 189=some ov:=by kernel_rfl
def Qn2:T.at 190=some yG:=by kernel_rfl
def QmV:T.at 191=some ww:=by kernel_rfl
def QoL:T.at 192=some vf:=by kernel_rfl
def Qls:T.at 193=some xE:=by kernel_rfl
def QsI:T.at 194=some zx:=by kernel_rfl
def Qlq:T.at 195=some xP:=by kernel_rfl
def Qpp:T.at 196=some Qa6:=by kernel_rfl
def QgM:T.at 197=some qh:=by kernel_rfl
def Qfg:T.at 198=some oY:=by kernel_rfl
def Qgc:T.at 199=some qc:=by kernel_rfl
def Qfc:T.at 200=some ow:=by kernel_rfl
def QlE:T.at 201=some vC:=by kernel_rfl
def QfX:T.at 202=some qq:=by kernel_rfl
def Qge:T.at 203=some qk:=by kernel_rfl
def Qmy:T.at 204=some zg:=by kernel_rfl
def QrS:T.at 205=some yx:=by kernel_rfl
def Qgh:T.at 206=some qN:=by kernel_rfl
def Qn9:T.at 210=some yS:=by kernel_rfl
def Qlm:T.at 212=some Qai:=by kernel_rfl
def Qne:T.at 213=some uF:=by kernel_rfl
def QgP:T.at 214=some og:=by kernel_rfl
def QrP:T.at 215=some xq:=by kernel_rfl
def Qqv:T.at 219=some zW:=by kernel_rfl
def Qlt:T.at 220=some uq:=by kernel_rfl
def Qsu:T.at 221=some yr:=by kernel_rfl
def Qgp:T.at 222=some pD:=by kernel_rfl
def Qf0:T.at 223=some pY:=by kernel_rfl
def QtF:T.at 224=some Qaj:=by kernel_rfl
def Qsf:T.at 225=some xv:=by kernel_rfl
def wT:T.at 226=some kQ:=by kernel_rfl
def Qfy:T.at 227=some pa:=by kernel_rfl
def Qqm:T.at 228=some Qbb:=by kernel_rfl
def QsX:T.at 230=some wA:=by kernel_rfl
def QnC:T.at 231=some wi:=by kernel_rfl
def QrM:T.at 232=some Qat:=by kernel_rfl
def Qsv:T.at 233=some Qae:=by kernel_rfl
def QfB:T.at 234=some qn:=by kernel_rfl
def Qqh:T.at 235=some Qa5:=by kernel_rfl
def QlX:T.at 236=some zY:=by kernel_rfl
def QlS:T.at 237=some vA:=by kernel_rfl
def QoT:T.at 238=some Qak:=by kernel_rfl
def QtJ:T.at 239=some xI:=by kernel_rfl
def QnE:T.at 240=some yn:=by kernel_rfl
def Qlp:T.at 241=some QaC:=by kernel_rfl
def WS:T.at 242=some PB:=by kernel_rfl
def Qrp:T.at 243=some vv:=by kernel_rfl
def QpU:T.at 244=some vm:=by kernel_rfl
def QmR:T.at 245=some vX:=by kernel_rfl
def Qgy:T.at 246=some pK:=by kernel_rfl
def Qs9:T.at 247=some zu:=by kernel_rfl
def Qgr:T.at 248=some qf:=by kernel_rfl
def Qoa:T.at 249=some wR:=by kernel_rfl
def Qmn:T.at 250=some v8:=by kernel_rfl
def Qa1:T.at 251=some kf:=by kernel_rfl
def Qr3:T.at 252=some QaT:=by kernel_rfl
def Qe6:T.at 253=some qL:=by kernel_rfl
def Qfn:T.at 254=some rn:=by kernel_rfl
def QfU:T.at 255=some oU:=by kernel_rfl
def Qfz:T.at 256=some oL:=by kernel_rfl
def QfM:T.at 257=some pi:=by kernel_rfl
def QfF:T.at 258=some q9:=by kernel_rfl
def QfG:T.at 259=some ql:=by kernel_rfl
def QpA:T.at 260=some yH:=by kernel_rfl
def Qfa:T.at 261=some qZ:=by kernel_rfl
def Qfj:T.at 262=some oh:=by kernel_rfl
def Qqj:T.at 263=some zm:=by kernel_rfl
def Qlr:T.at 264=some yh:=by kernel_rfl
def Qgz:T.at 265=some qU:=by kernel_rfl
def Qgk:T.at 266=some pB:=by kernel_rfl
def Qq9:T.at 267=some un:=by kernel_rfl
def QfN:T.at 268=some pW:=by kernel_rfl
def Qgb:T.at 269=some qS:=by kernel_rfl
def Qta:T.at 270=some wk:=by kernel_rfl
def QgI:T.at 271=some oT:=by kernel_rfl
def Qfp:T.at 272=some oA:=by kernel_rfl
def Qrv:T.at 273=some uU:=by kernel_rfl
def QfZ:T.at 274=some qj:=by kernel_rfl
def QrN:T.at 275=some uE:=by kernel_rfl
def Qpr:T.at 276=some y9:=by kernel_rfl
def xc:T.at 277=some ky:=by kernel_rfl
def u9:T.at 278=some jf:=by kernel_rfl
def oG:T.at 279=some fB:=by kernel_rfl
def QmQ:T.at 280=some zD:=by kernel_rfl
def Qgg:T.at 281=some pf:=by kernel_rfl
def Qf1:T.at 282=some qA:=by kernel_rfl
def QtI:T.at 283=some yT:=by kernel_rfl
def Qf8:T.at 284=some oC:=by kernel_rfl
def QpG:T.at 285=some yZ:=by kernel_rfl
def Qe2:T.at 291=some qD:=by kernel_rfl
def Qm5:T.at 292=some vB:=by kernel_rfl
def Qli:T.at 296=some z7:=by kernel_rfl
def Qr7:T.at 297=some Qaa:=by kernel_rfl
def QfD:T.at 298=some qm:=by kernel_rfl
def Qe8:T.at 299=some pV:=by kernel_rfl
def uM:T.at 300=some lF:=by kernel_rfl
def Qgu:T.at 301=some qb:=by kernel_rfl
def pH:T.at 302=some fH:=by kernel_rfl
def Qfd:T.at 303=some qV:=by kernel_rfl
def jZ:T.at 304=some cV:=by kernel_rfl
def Qf5:T.at 307=some qx:=by kernel_rfl
def QpZ:T.at 308=some wh:=by kernel_rfl
def QrV:T.at 309=some zU:=by kernel_rfl
def QnD:T.at 310=some QaZ:=by kernel_rfl
def QgN:T.at 312=some qE:=by kernel_rfl
def Qtw:T.at 313=some Qba:=by kernel_rfl
def Qfs:T.at 316=some qQ:=by kernel_rfl
def Qs3:T.at 317=some Qa2:=by kernel_rfl
def Qfx:T.at 318=some pl:=by kernel_rfl
def Qmu:T.at 319=some xJ:=by kernel_rfl
def Qsp:T.at 320=some yI:=by kernel_rfl
def QgU:T.at 321=some oK:=by kernel_rfl
def QpI:T.at 322=some QaU:=by kernel_rfl
def qJ:T.at 323=some fu:=by kernel_rfl
def QgA:T.at 324=some ry:=by kernel_rfl
def QoO:T.at 325=some uR:=by kernel_rfl
def QgF:T.at 326=some qW:=by kernel_rfl
def QfO:T.at 327=some qd:=by kernel_rfl
def Qsq:T.at 328=some QaQ:=by kernel_rfl
def Qlh:T.at 329=some xH:=by kernel_rfl
def QgJ:T.at 330=some pd:=by kernel_rfl
def Qgi:T.at 331=some pP:=by kernel_rfl
def Qnr:T.at 332=some yD:=by kernel_rfl
def Qoc:T.at 333=some vW:=by kernel_rfl
def Qe0:T.at 334=some rc:=by kernel_rfl
def Qq5:T.at 335=some xF:=by kernel_rfl
def Qe5:T.at 336=some pc:=by kernel_rfl
def QoW:T.at 337=some Qbd:=by kernel_rfl
def Qtx:T.at 344=some xn:=by kernel_rfl
def QmJ:T.at 345=some uJ:=by kernel_rfl
def Qf4:T.at 350=some pe:=by kernel_rfl
def Qrg:T.at 354=some zL:=by kernel_rfl
def Qty:T.at 355=some uj:=by kernel_rfl
def Qr8:T.at 356=some xa:=by kernel_rfl
def Qpm:T.at 357=some QaY:=by kernel_rfl
def Ql2:T.at 358=some Qbc:=by kernel_rfl
def Qq6:T.at 359=some vz:=by kernel_rfl
def Qnj:T.at 360=some Qay:=by kernel_rfl
def QqA:T.at 361=some xU:=by kernel_rfl
def Qm3:T.at 362=some ut:=by kernel_rfl
def QgR:T.at 364=some qp:=by kernel_rfl
def Qrk:T.at 365=some uo:=by kernel_rfl
def QlC:T.at 366=some xV:=by kernel_rfl
def Qe1:T.at 377=some rj:=by kernel_rfl
def pt:T.at 378=some fA:=by kernel_rfl
def QnB:T.at 379=some w7:=by kernel_rfl
def Qod:T.at 380=some uP:=by kernel_rfl
def we:T.at 383=some kl:=by kernel_rfl
def vY:T.at 393=some jx:=by kernel_rfl
end Go.Proofs.YtkgadcbajihilaaGreatDoor
