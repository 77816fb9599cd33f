import Derived.Test.YtonidbheohhgdaaGreatEvB
import Derived.Test.YtonidbheohhgdaaGreatFn
import Derived.Test.YtonidbheohhgdaaGreatProg
import Derived.KernelRfl
namespace Go.Proofs.YtonidbheohhgdaaGreat
open Go Go.Proofs Go.Proofs.YtonidbheohhgdaaGreat.Am
set_option maxHeartbeats 4000000
set_option linter.unusedVariables false
set_option linter.unusedSimpArgs false
set_option linter.defProp false
set_option maxRecDepth 100000
def Qj(x:Int):List AV:=[.i .i64 x]
theorem QnN(x:Int):Qj x=[.i .i64 x]:=_root_.id rfl
instance(x:Int):EncR Qj [.i .i64 x] x:=⟨rfl⟩
theorem Qvr(xs:List Int):Qh (xs.map Qj)=xs.map Qj:=ZC (fun x=>by simp only[QnN,Q5,Vp]) xs
theorem QwK(xs:List Int):Qz (xs.map Qj)=true:=X9 (fun x=>by simp only[QnN,Vt,AV.clean,Bool.and_self]) xs
theorem QEE{R:List (List AV)}{xs:List Int}(i:Int)[h:EncL Qj R xs]:inb R i=inb xs i:=by rw[h.eq,Qnv]
theorem QEN{R:List (List AV)}{xs:List Int}(i:Int)[h:EncL Qj R xs](hi:inb xs i=true):QB R i.toNat=Qj (gt xs i):=by rw[h.eq,Qm2 xs i hi]
def QbJ(x:Int):List AV:=[.i .u8 x]
theorem Qrv(x:Int):QbJ x=[.i .u8 x]:=_root_.id rfl
instance(x:Int):EncR QbJ [.i .u8 x] x:=⟨rfl⟩
theorem QB5(xs:List Int):Qh (xs.map QbJ)=xs.map QbJ:=ZC (fun x=>by simp only[Qrv,Q5,Vp]) xs
theorem QCu(xs:List Int):Qz (xs.map QbJ)=true:=X9 (fun x=>by simp only[Qrv,Vt,AV.clean,Bool.and_self]) xs
theorem QNU{R:List (List AV)}{xs:List Int}(i:Int)[h:EncL QbJ R xs]:inb R i=inb xs i:=by rw[h.eq,Qnv]
theorem QMc{R:List (List AV)}{xs:List Int}(i:Int)[h:EncL QbJ R xs](hi:inb xs i=true):QB R i.toNat=QbJ (gt xs i):=by rw[h.eq,Qm2 xs i hi]
def c_b(x:Bool):List AV:=[.b x]
theorem QwO(x:Bool):c_b x=[.b x]:=_root_.id rfl
instance(x:Bool):EncR c_b [.b x] x:=⟨rfl⟩
theorem QQe(xs:List Bool):Qh (xs.map c_b)=xs.map c_b:=ZC (fun x=>by simp only[QwO,Q5,Vp]) xs
theorem QSm(xs:List Bool):Qz (xs.map c_b)=true:=X9 (fun x=>by simp only[QwO,Vt,AV.clean,Bool.and_self]) xs
theorem QSr{R:List (List AV)}{xs:List Bool}(i:Int)[h:EncL c_b R xs]:inb R i=inb xs i:=by rw[h.eq,Qnv]
theorem QQU{R:List (List AV)}{xs:List Bool}(i:Int)[h:EncL c_b R xs](hi:inb xs i=true):QB R i.toNat=c_b (gt xs i):=by rw[h.eq,Qm2 xs i hi]
def c_s(x:List UInt8):List AV:=[.s x]
theorem QxU(x:List UInt8):c_s x=[.s x]:=_root_.id rfl
instance(x:List UInt8):EncR c_s [.s x] x:=⟨rfl⟩
theorem QO6(xs:List (List UInt8)):Qh (xs.map c_s)=xs.map c_s:=ZC (fun x=>by simp only[QxU,Q5,Vp]) xs
theorem QRp(xs:List (List UInt8)):Qz (xs.map c_s)=true:=X9 (fun x=>by simp only[QxU,Vt,AV.clean,Bool.and_self]) xs
theorem QOl{R:List (List AV)}{xs:List (List UInt8)}(i:Int)[h:EncL c_s R xs]:inb R i=inb xs i:=by rw[h.eq,Qnv]
theorem QSp{R:List (List AV)}{xs:List (List UInt8)}(i:Int)[h:EncL c_s R xs](hi:inb xs i=true):QB R i.toNat=c_s (gt xs i):=by rw[h.eq,Qm2 xs i hi]
def Qw(x:l1Cur):List AV:=[.imm 1 (x.b.map QbJ),.i .i64 x.i,.i .i64 x.h]
theorem Qpc(x:l1Cur):Qw x=[.imm 1 (x.b.map QbJ),.i .i64 x.i,.i .i64 x.h]:=_root_.id rfl
instance(yxi yxh){R1 yxb}[H1:EncL QbJ R1 yxb]:EncR Qw [.imm 1 R1,.i .i64 yxi,.i .i64 yxh] (⟨yxb,yxi,yxh⟩:l1Cur):=⟨by obtain⟨rfl⟩:=H1;rfl⟩
def Qk1(x:l1Cur):List AV:=[.own 1 (x.b.map QbJ),.i .i64 x.i,.i .i64 x.h]
theorem QjN(x:l1Cur):Qk1 x=[.own 1 (x.b.map QbJ),.i .i64 x.i,.i .i64 x.h]:=_root_.id rfl
instance(yxi yxh){R1 yxb}[H1:EncL QbJ R1 yxb]:EncR Qk1 [.own 1 R1,.i .i64 yxi,.i .i64 yxh] (⟨yxb,yxi,yxh⟩:l1Cur):=⟨by obtain⟨rfl⟩:=H1;rfl⟩
theorem Qxn(xs:List l1Cur):Qh (xs.map Qk1)=xs.map Qw:=ZC (fun x=>by simp only[QjN,Qpc,Q5,Vp,QB5]) xs
theorem QxL(xs:List l1Cur):Qz (xs.map Qk1)=true:=X9 (fun x=>by simp only[QjN,Vt,AV.clean,Bool.and_self,QCu]) xs
theorem QxC(x:l1Cur):(⟨x.b,x.i,x.h⟩:l1Cur)=x:=_root_.id rfl
def Qcq(x:Hit):List AV:=[.i .i64 x.House,.i .i64 x.Thing]
theorem QrL(x:Hit):Qcq x=[.i .i64 x.House,.i .i64 x.Thing]:=_root_.id rfl
instance(yxHouse yxThing)  : EncR Qcq [.i .i64 yxHouse,.i .i64 yxThing] (⟨yxHouse,yxThing⟩:Hit):=⟨by rfl⟩
theorem QEr(xs:List Hit):Qh (xs.map Qcq)=xs.map Qcq:=ZC (fun x=>by simp only[QrL,Q5,Vp]) xs
theorem QFx(xs:List Hit):Qz (xs.map Qcq)=true:=X9 (fun x=>by simp only[QrL,Vt,AV.clean,Bool.and_self]) xs
theorem QFr(x:Hit):(⟨x.House,x.Thing⟩:Hit)=x:=_root_.id rfl
def VM(x:Slot):List AV:=[.i .i64 x.Id,.i .i64 x.Size,.i .i64 x.Thing]
theorem QoH(x:Slot):VM x=[.i .i64 x.Id,.i .i64 x.Size,.i .i64 x.Thing]:=_root_.id rfl
instance(yxId yxSize yxThing)  : EncR VM [.i .i64 yxId,.i .i64 yxSize,.i .i64 yxThing] (⟨yxId,yxSize,yxThing⟩:Slot):=⟨by rfl⟩
theorem Qsr(xs:List Slot):Qh (xs.map VM)=xs.map VM:=ZC (fun x=>by simp only[QoH,Q5,Vp]) xs
theorem Qs1(xs:List Slot):Qz (xs.map VM)=true:=X9 (fun x=>by simp only[QoH,Vt,AV.clean,Bool.and_self]) xs
theorem QA7(x:Slot):(⟨x.Id,x.Size,x.Thing⟩:Slot)=x:=_root_.id rfl
def Zd(x:Mark):List AV:=[.i .i64 x.Question,.i .i64 x.Answer]
theorem QoL(x:Mark):Zd x=[.i .i64 x.Question,.i .i64 x.Answer]:=_root_.id rfl
instance(yxQuestion yxAnswer)  : EncR Zd [.i .i64 yxQuestion,.i .i64 yxAnswer] (⟨yxQuestion,yxAnswer⟩:Mark):=⟨by rfl⟩
theorem Qop(xs:List Mark):Qh (xs.map Zd)=xs.map Zd:=ZC (fun x=>by simp only[QoL,Q5,Vp]) xs
theorem Qoo(xs:List Mark):Qz (xs.map Zd)=true:=X9 (fun x=>by simp only[QoL,Vt,AV.clean,Bool.and_self]) xs
theorem QBt(x:Mark):(⟨x.Question,x.Answer⟩:Mark)=x:=_root_.id rfl
def Jt(x:Secret):List AV:=[.i .i64 x.Thing,.imm 2 (x.Marks.map Zd),.i .i64 x.Salt]
theorem Qnk(x:Secret):Jt x=[.i .i64 x.Thing,.imm 2 (x.Marks.map Zd),.i .i64 x.Salt]:=_root_.id rfl
instance(yxThing yxSalt){R1 yxMarks}[H1:EncL Zd R1 yxMarks]:EncR Jt [.i .i64 yxThing,.imm 2 R1,.i .i64 yxSalt] (⟨yxThing,yxMarks,yxSalt⟩:Secret):=⟨by obtain⟨rfl⟩:=H1;rfl⟩
def Xl(x:Secret):List AV:=[.i .i64 x.Thing,.own 2 (x.Marks.map Zd),.i .i64 x.Salt]
theorem Qhz(x:Secret):Xl x=[.i .i64 x.Thing,.own 2 (x.Marks.map Zd),.i .i64 x.Salt]:=_root_.id rfl
instance(yxThing yxSalt){R1 yxMarks}[H1:EncL Zd R1 yxMarks]:EncR Xl [.i .i64 yxThing,.own 2 R1,.i .i64 yxSalt] (⟨yxThing,yxMarks,yxSalt⟩:Secret):=⟨by obtain⟨rfl⟩:=H1;rfl⟩
theorem Qnx(xs:List Secret):Qh (xs.map Xl)=xs.map Jt:=ZC (fun x=>by simp only[Qhz,Qnk,Q5,Vp,Qop]) xs
theorem Qny(xs:List Secret):Qz (xs.map Xl)=true:=X9 (fun x=>by simp only[Qhz,Vt,AV.clean,Bool.and_self,Qoo]) xs
theorem Qux(x:Secret):(⟨x.Thing,x.Marks,x.Salt⟩:Secret)=x:=_root_.id rfl
def Qc3(x:Thing):List AV:=[.i .i64 x.Id,.i .i64 x.Kind,.i .i64 x.Colour,.i .i64 x.Size,.i .i64 x.Worth]
theorem Qlt(x:Thing):Qc3 x=[.i .i64 x.Id,.i .i64 x.Kind,.i .i64 x.Colour,.i .i64 x.Size,.i .i64 x.Worth]:=_root_.id rfl
instance(yxId yxKind yxColour yxSize yxWorth)  : EncR Qc3 [.i .i64 yxId,.i .i64 yxKind,.i .i64 yxColour,.i .i64 yxSize,.i .i64 yxWorth] (⟨yxId,yxKind,yxColour,yxSize,yxWorth⟩:Thing):=⟨by rfl⟩
theorem QwQ(xs:List Thing):Qh (xs.map Qc3)=xs.map Qc3:=ZC (fun x=>by simp only[Qlt,Q5,Vp]) xs
theorem Qw3(xs:List Thing):Qz (xs.map Qc3)=true:=X9 (fun x=>by simp only[Qlt,Vt,AV.clean,Bool.and_self]) xs
theorem Qxz(x:Thing):(⟨x.Id,x.Kind,x.Colour,x.Size,x.Worth⟩:Thing)=x:=_root_.id rfl
def QX(x:Find):List AV:=[.i .i64 x.Thing.Id,.i .i64 x.Thing.Kind,.i .i64 x.Thing.Colour,.i .i64 x.Thing.Size,.i .i64 x.Thing.Worth,.i .i64 x.Place,.i .i64 x.At,.i .i64 x.Finder]
theorem Qoi(x:Find):QX x=[.i .i64 x.Thing.Id,.i .i64 x.Thing.Kind,.i .i64 x.Thing.Colour,.i .i64 x.Thing.Size,.i .i64 x.Thing.Worth,.i .i64 x.Place,.i .i64 x.At,.i .i64 x.Finder]:=_root_.id rfl
instance(yxThingxId yxThingxKind yxThingxColour yxThingxSize yxThingxWorth yxPlace yxAt yxFinder)  : EncR QX [.i .i64 yxThingxId,.i .i64 yxThingxKind,.i .i64 yxThingxColour,.i .i64 yxThingxSize,.i .i64 yxThingxWorth,.i .i64 yxPlace,.i .i64 yxAt,.i .i64 yxFinder] (⟨⟨yxThingxId,yxThingxKind,yxThingxColour,yxThingxSize,yxThingxWorth⟩,yxPlace,yxAt,yxFinder⟩:Find):=⟨by rfl⟩
theorem QsB(xs:List Find):Qh (xs.map QX)=xs.map QX:=ZC (fun x=>by simp only[Qoi,Q5,Vp]) xs
theorem QsF(xs:List Find):Qz (xs.map QX)=true:=X9 (fun x=>by simp only[Qoi,Vt,AV.clean,Bool.and_self]) xs
theorem QAT(x:Find):(⟨x.Thing,x.Place,x.At,x.Finder⟩:Find)=x:=_root_.id rfl
def Vj(x:Claim):List AV:=[.i .i64 x.Id,.i .i64 x.Who,.i .i64 x.Thing,.i .i64 x.At,.i .i64 x.State]
theorem Qlj(x:Claim):Vj x=[.i .i64 x.Id,.i .i64 x.Who,.i .i64 x.Thing,.i .i64 x.At,.i .i64 x.State]:=_root_.id rfl
instance(yxId yxWho yxThing yxAt yxState)  : EncR Vj [.i .i64 yxId,.i .i64 yxWho,.i .i64 yxThing,.i .i64 yxAt,.i .i64 yxState] (⟨yxId,yxWho,yxThing,yxAt,yxState⟩:Claim):=⟨by rfl⟩
theorem Qo1(xs:List Claim):Qh (xs.map Vj)=xs.map Vj:=ZC (fun x=>by simp only[Qlj,Q5,Vp]) xs
theorem QqH(xs:List Claim):Qz (xs.map Vj)=true:=X9 (fun x=>by simp only[Qlj,Vt,AV.clean,Bool.and_self]) xs
theorem Qyr(x:Claim):(⟨x.Id,x.Who,x.Thing,x.At,x.State⟩:Claim)=x:=_root_.id rfl
def Jx(x:Trial):List AV:=[.i .i64 x.Claim,.i .i64 x.Asked,.i .i64 x.Right,.i .i64 x.Wrong]
theorem Qlw(x:Trial):Jx x=[.i .i64 x.Claim,.i .i64 x.Asked,.i .i64 x.Right,.i .i64 x.Wrong]:=_root_.id rfl
instance(yxClaim yxAsked yxRight yxWrong)  : EncR Jx [.i .i64 yxClaim,.i .i64 yxAsked,.i .i64 yxRight,.i .i64 yxWrong] (⟨yxClaim,yxAsked,yxRight,yxWrong⟩:Trial):=⟨by rfl⟩
theorem Qpn(xs:List Trial):Qh (xs.map Jx)=xs.map Jx:=ZC (fun x=>by simp only[Qlw,Q5,Vp]) xs
theorem QpC(xs:List Trial):Qz (xs.map Jx)=true:=X9 (fun x=>by simp only[Qlw,Vt,AV.clean,Bool.and_self]) xs
theorem Qv6(x:Trial):(⟨x.Claim,x.Asked,x.Right,x.Wrong⟩:Trial)=x:=_root_.id rfl
def J5(x:Hand):List AV:=[.i .i64 x.Thing,.i .i64 x.Holder,.i .i64 x.Who,.i .i64 x.At,.i .i64 x.Seal]
theorem QoG(x:Hand):J5 x=[.i .i64 x.Thing,.i .i64 x.Holder,.i .i64 x.Who,.i .i64 x.At,.i .i64 x.Seal]:=_root_.id rfl
instance(yxThing yxHolder yxWho yxAt yxSeal)  : EncR J5 [.i .i64 yxThing,.i .i64 yxHolder,.i .i64 yxWho,.i .i64 yxAt,.i .i64 yxSeal] (⟨yxThing,yxHolder,yxWho,yxAt,yxSeal⟩:Hand):=⟨by rfl⟩
theorem QsC(xs:List Hand):Qh (xs.map J5)=xs.map J5:=ZC (fun x=>by simp only[QoG,Q5,Vp]) xs
theorem Qtn(xs:List Hand):Qz (xs.map J5)=true:=X9 (fun x=>by simp only[QoG,Vt,AV.clean,Bool.and_self]) xs
theorem QAd(x:Hand):(⟨x.Thing,x.Holder,x.Who,x.At,x.Seal⟩:Hand)=x:=_root_.id rfl
def Jd(x:Entry):List AV:=[.i .i64 x.From,.i .i64 x.To,.i .i64 x.Cents,.i .i64 x.At]
theorem QlU(x:Entry):Jd x=[.i .i64 x.From,.i .i64 x.To,.i .i64 x.Cents,.i .i64 x.At]:=_root_.id rfl
instance(yxFrom yxTo yxCents yxAt)  : EncR Jd [.i .i64 yxFrom,.i .i64 yxTo,.i .i64 yxCents,.i .i64 yxAt] (⟨yxFrom,yxTo,yxCents,yxAt⟩:Entry):=⟨by rfl⟩
theorem Qpx(xs:List Entry):Qh (xs.map Jd)=xs.map Jd:=ZC (fun x=>by simp only[QlU,Q5,Vp]) xs
theorem QpI(xs:List Entry):Qz (xs.map Jd)=true:=X9 (fun x=>by simp only[QlU,Vt,AV.clean,Bool.and_self]) xs
theorem Qxd(x:Entry):(⟨x.From,x.To,x.Cents,x.At⟩:Entry)=x:=_root_.id rfl
def Q6(x:House):List AV:=[.i .i64 x.No,.imm 8 (x.Finds.map QX),.imm 3 (x.Secrets.map Jt),.imm 3 (x.Slots.map VM),.imm 5 (x.Claims.map Vj),.imm 4 (x.Trials.map Jx),.imm 5 (x.Chain.map J5),.imm 4 (x.Book.map Jd),.i .i64 x.Now]
theorem Qpt(x:House):Q6 x=[.i .i64 x.No,.imm 8 (x.Finds.map QX),.imm 3 (x.Secrets.map Jt),.imm 3 (x.Slots.map VM),.imm 5 (x.Claims.map Vj),.imm 4 (x.Trials.map Jx),.imm 5 (x.Chain.map J5),.imm 4 (x.Book.map Jd),.i .i64 x.Now]:=_root_.id rfl
instance(yxNo yxNow){R1 yxFinds R2 yxSecrets R3 yxSlots R4 yxClaims R5 yxTrials R6 yxChain R7 yxBook}[H1:EncL QX R1 yxFinds][H2:EncL Jt R2 yxSecrets][H3:EncL VM R3 yxSlots][H4:EncL Vj R4 yxClaims][H5:EncL Jx R5 yxTrials][H6:EncL J5 R6 yxChain][H7:EncL Jd R7 yxBook]:EncR Q6 [.i .i64 yxNo,.imm 8 R1,.imm 3 R2,.imm 3 R3,.imm 5 R4,.imm 4 R5,.imm 5 R6,.imm 4 R7,.i .i64 yxNow] (⟨yxNo,yxFinds,yxSecrets,yxSlots,yxClaims,yxTrials,yxChain,yxBook,yxNow⟩:House):=⟨by obtain⟨rfl⟩:=H1;obtain⟨rfl⟩:=H2;obtain⟨rfl⟩:=H3;obtain⟨rfl⟩:=H4;obtain⟨rfl⟩:=H5;obtain⟨rfl⟩:=H6;obtain⟨rfl⟩:=H7;rfl⟩
def X8(x:House):List AV:=[.i .i64 x.No,.own 8 (x.Finds.map QX),.own 3 (x.Secrets.map Xl),.own 3 (x.Slots.map VM),.own 5 (x.Claims.map Vj),.own 4 (x.Trials.map Jx),.own 5 (x.Chain.map J5),.own 4 (x.Book.map Jd),.i .i64 x.Now]
theorem Qjp(x:House):X8 x=[.i .i64 x.No,.own 8 (x.Finds.map QX),.own 3 (x.Secrets.map Xl),.own 3 (x.Slots.map VM),.own 5 (x.Claims.map Vj),.own 4 (x.Trials.map Jx),.own 5 (x.Chain.map J5),.own 4 (x.Book.map Jd),.i .i64 x.Now]:=_root_.id rfl
instance(yxNo yxNow){R1 yxFinds R2 yxSecrets R3 yxSlots R4 yxClaims R5 yxTrials R6 yxChain R7 yxBook}[H1:EncL QX R1 yxFinds][H2:EncL Xl R2 yxSecrets][H3:EncL VM R3 yxSlots][H4:EncL Vj R4 yxClaims][H5:EncL Jx R5 yxTrials][H6:EncL J5 R6 yxChain][H7:EncL Jd R7 yxBook]:EncR X8 [.i .i64 yxNo,.own 8 R1,.own 3 R2,.own 3 R3,.own 5 R4,.own 4 R5,.own 5 R6,.own 4 R7,.i .i64 yxNow] (⟨yxNo,yxFinds,yxSecrets,yxSlots,yxClaims,yxTrials,yxChain,yxBook,yxNow⟩:House):=⟨by obtain⟨rfl⟩:=H1;obtain⟨rfl⟩:=H2;obtain⟨rfl⟩:=H3;obtain⟨rfl⟩:=H4;obtain⟨rfl⟩:=H5;obtain⟨rfl⟩:=H6;obtain⟨rfl⟩:=H7;rfl⟩
theorem Qww(xs:List House):Qh (xs.map X8)=xs.map Q6:=ZC (fun x=>by simp only[Qjp,Qpt,Q5,Vp,Qo1,Qpx,QsB,QsC,Qnx,Qsr,Qpn]) xs
theorem Qv1(xs:List House):Qz (xs.map X8)=true:=X9 (fun x=>by simp only[Qjp,Vt,AV.clean,Bool.and_self,QqH,QpI,QsF,Qtn,Qny,Qs1,QpC]) xs
theorem QxM(x:House):(⟨x.No,x.Finds,x.Secrets,x.Slots,x.Claims,x.Trials,x.Chain,x.Book,x.Now⟩:House)=x:=_root_.id rfl
def Qbp(x:Bid):List AV:=[.i .i64 x.Who,.i .i64 x.Cents,.i .i64 x.Seal]
theorem QrJ(x:Bid):Qbp x=[.i .i64 x.Who,.i .i64 x.Cents,.i .i64 x.Seal]:=_root_.id rfl
instance(yxWho yxCents yxSeal)  : EncR Qbp [.i .i64 yxWho,.i .i64 yxCents,.i .i64 yxSeal] (⟨yxWho,yxCents,yxSeal⟩:Bid):=⟨by rfl⟩
theorem QxE(xs:List Bid):Qh (xs.map Qbp)=xs.map Qbp:=ZC (fun x=>by simp only[QrJ,Q5,Vp]) xs
theorem Qyp(xs:List Bid):Qz (xs.map Qbp)=true:=X9 (fun x=>by simp only[QrJ,Vt,AV.clean,Bool.and_self]) xs
theorem QDC(x:Bid):(⟨x.Who,x.Cents,x.Seal⟩:Bid)=x:=_root_.id rfl
def QhR(x:Event):List AV:=[.i .i64 x.Kind,.i .i64 x.Find.Thing.Id,.i .i64 x.Find.Thing.Kind,.i .i64 x.Find.Thing.Colour,.i .i64 x.Find.Thing.Size,.i .i64 x.Find.Thing.Worth,.i .i64 x.Find.Place,.i .i64 x.Find.At,.i .i64 x.Find.Finder,.imm 2 (x.Marks.map Zd),.i .i64 x.Id,.i .i64 x.Who,.i .i64 x.N,.imm 3 (x.Bids.map Qbp)]
theorem Qpy(x:Event):QhR x=[.i .i64 x.Kind,.i .i64 x.Find.Thing.Id,.i .i64 x.Find.Thing.Kind,.i .i64 x.Find.Thing.Colour,.i .i64 x.Find.Thing.Size,.i .i64 x.Find.Thing.Worth,.i .i64 x.Find.Place,.i .i64 x.Find.At,.i .i64 x.Find.Finder,.imm 2 (x.Marks.map Zd),.i .i64 x.Id,.i .i64 x.Who,.i .i64 x.N,.imm 3 (x.Bids.map Qbp)]:=_root_.id rfl
instance(yxKind yxFindxThingxId yxFindxThingxKind yxFindxThingxColour yxFindxThingxSize yxFindxThingxWorth yxFindxPlace yxFindxAt yxFindxFinder yxId yxWho yxN){R1 yxMarks R2 yxBids}[H1:EncL Zd R1 yxMarks][H2:EncL Qbp R2 yxBids]:EncR QhR [.i .i64 yxKind,.i .i64 yxFindxThingxId,.i .i64 yxFindxThingxKind,.i .i64 yxFindxThingxColour,.i .i64 yxFindxThingxSize,.i .i64 yxFindxThingxWorth,.i .i64 yxFindxPlace,.i .i64 yxFindxAt,.i .i64 yxFindxFinder,.imm 2 R1,.i .i64 yxId,.i .i64 yxWho,.i .i64 yxN,.imm 3 R2] (⟨yxKind,⟨⟨yxFindxThingxId,yxFindxThingxKind,yxFindxThingxColour,yxFindxThingxSize,yxFindxThingxWorth⟩,yxFindxPlace,yxFindxAt,yxFindxFinder⟩,yxMarks,yxId,yxWho,yxN,yxBids⟩:Event):=⟨by obtain⟨rfl⟩:=H1;obtain⟨rfl⟩:=H2;rfl⟩
def Qfr(x:Event):List AV:=[.i .i64 x.Kind,.i .i64 x.Find.Thing.Id,.i .i64 x.Find.Thing.Kind,.i .i64 x.Find.Thing.Colour,.i .i64 x.Find.Thing.Size,.i .i64 x.Find.Thing.Worth,.i .i64 x.Find.Place,.i .i64 x.Find.At,.i .i64 x.Find.Finder,.own 2 (x.Marks.map Zd),.i .i64 x.Id,.i .i64 x.Who,.i .i64 x.N,.own 3 (x.Bids.map Qbp)]
theorem QjY(x:Event):Qfr x=[.i .i64 x.Kind,.i .i64 x.Find.Thing.Id,.i .i64 x.Find.Thing.Kind,.i .i64 x.Find.Thing.Colour,.i .i64 x.Find.Thing.Size,.i .i64 x.Find.Thing.Worth,.i .i64 x.Find.Place,.i .i64 x.Find.At,.i .i64 x.Find.Finder,.own 2 (x.Marks.map Zd),.i .i64 x.Id,.i .i64 x.Who,.i .i64 x.N,.own 3 (x.Bids.map Qbp)]:=_root_.id rfl
instance(yxKind yxFindxThingxId yxFindxThingxKind yxFindxThingxColour yxFindxThingxSize yxFindxThingxWorth yxFindxPlace yxFindxAt yxFindxFinder yxId yxWho yxN){R1 yxMarks R2 yxBids}[H1:EncL Zd R1 yxMarks][H2:EncL Qbp R2 yxBids]:EncR Qfr [.i .i64 yxKind,.i .i64 yxFindxThingxId,.i .i64 yxFindxThingxKind,.i .i64 yxFindxThingxColour,.i .i64 yxFindxThingxSize,.i .i64 yxFindxThingxWorth,.i .i64 yxFindxPlace,.i .i64 yxFindxAt,.i .i64 yxFindxFinder,.own 2 R1,.i .i64 yxId,.i .i64 yxWho,.i .i64 yxN,.own 3 R2] (⟨yxKind,⟨⟨yxFindxThingxId,yxFindxThingxKind,yxFindxThingxColour,yxFindxThingxSize,yxFindxThingxWorth⟩,yxFindxPlace,yxFindxAt,yxFindxFinder⟩,yxMarks,yxId,yxWho,yxN,yxBids⟩:Event):=⟨by obtain⟨rfl⟩:=H1;obtain⟨rfl⟩:=H2;rfl⟩
theorem QxP(xs:List Event):Qh (xs.map Qfr)=xs.map QhR:=ZC (fun x=>by simp only[QjY,Qpy,Q5,Vp,QxE,Qop]) xs
theorem QvO(xs:List Event):Qz (xs.map Qfr)=true:=X9 (fun x=>by simp only[QjY,Vt,AV.clean,Bool.and_self,Qyp,Qoo]) xs
theorem QvX(x:Event):(⟨x.Kind,x.Find,x.Marks,x.Id,x.Who,x.N,x.Bids⟩:Event)=x:=_root_.id rfl
def Qjs(x:Share):List AV:=[.i .i64 x.Who,.i .i64 x.Cents]
theorem Qlu(x:Share):Qjs x=[.i .i64 x.Who,.i .i64 x.Cents]:=_root_.id rfl
instance(yxWho yxCents)  : EncR Qjs [.i .i64 yxWho,.i .i64 yxCents] (⟨yxWho,yxCents⟩:Share):=⟨by rfl⟩
theorem Qwh(xs:List Share):Qh (xs.map Qjs)=xs.map Qjs:=ZC (fun x=>by simp only[Qlu,Q5,Vp]) xs
theorem QxS(xs:List Share):Qz (xs.map Qjs)=true:=X9 (fun x=>by simp only[Qlu,Vt,AV.clean,Bool.and_self]) xs
theorem QwX(x:Share):(⟨x.Who,x.Cents⟩:Share)=x:=_root_.id rfl
def Qiq(x:Span):List AV:=[.i .i64 x.From,.i .i64 x.Until]
theorem QoA(x:Span):Qiq x=[.i .i64 x.From,.i .i64 x.Until]:=_root_.id rfl
instance(yxFrom yxUntil)  : EncR Qiq [.i .i64 yxFrom,.i .i64 yxUntil] (⟨yxFrom,yxUntil⟩:Span):=⟨by rfl⟩
theorem QBs(xs:List Span):Qh (xs.map Qiq)=xs.map Qiq:=ZC (fun x=>by simp only[QoA,Q5,Vp]) xs
theorem QBd(xs:List Span):Qz (xs.map Qiq)=true:=X9 (fun x=>by simp only[QoA,Vt,AV.clean,Bool.and_self]) xs
theorem Qz7(x:Span):(⟨x.From,x.Until⟩:Span)=x:=_root_.id rfl
def VN(x:Report):List AV:=[.i .i64 x.Id,.i .i64 x.Kind,.imm 1 (x.Colours.map Qj),.i .i64 x.SizeLow,.i .i64 x.SizeHigh,.imm 1 (x.Places.map Qj),.i .i64 x.Span.From,.i .i64 x.Span.Until]
theorem Qnt(x:Report):VN x=[.i .i64 x.Id,.i .i64 x.Kind,.imm 1 (x.Colours.map Qj),.i .i64 x.SizeLow,.i .i64 x.SizeHigh,.imm 1 (x.Places.map Qj),.i .i64 x.Span.From,.i .i64 x.Span.Until]:=_root_.id rfl
instance(yxId yxKind yxSizeLow yxSizeHigh yxSpanxFrom yxSpanxUntil){R1 yxColours R2 yxPlaces}[H1:EncL Qj R1 yxColours][H2:EncL Qj R2 yxPlaces]:EncR VN [.i .i64 yxId,.i .i64 yxKind,.imm 1 R1,.i .i64 yxSizeLow,.i .i64 yxSizeHigh,.imm 1 R2,.i .i64 yxSpanxFrom,.i .i64 yxSpanxUntil] (⟨yxId,yxKind,yxColours,yxSizeLow,yxSizeHigh,yxPlaces,⟨yxSpanxFrom,yxSpanxUntil⟩⟩:Report):=⟨by obtain⟨rfl⟩:=H1;obtain⟨rfl⟩:=H2;rfl⟩
def Qi8(x:Report):List AV:=[.i .i64 x.Id,.i .i64 x.Kind,.own 1 (x.Colours.map Qj),.i .i64 x.SizeLow,.i .i64 x.SizeHigh,.own 1 (x.Places.map Qj),.i .i64 x.Span.From,.i .i64 x.Span.Until]
theorem Qhp(x:Report):Qi8 x=[.i .i64 x.Id,.i .i64 x.Kind,.own 1 (x.Colours.map Qj),.i .i64 x.SizeLow,.i .i64 x.SizeHigh,.own 1 (x.Places.map Qj),.i .i64 x.Span.From,.i .i64 x.Span.Until]:=_root_.id rfl
instance(yxId yxKind yxSizeLow yxSizeHigh yxSpanxFrom yxSpanxUntil){R1 yxColours R2 yxPlaces}[H1:EncL Qj R1 yxColours][H2:EncL Qj R2 yxPlaces]:EncR Qi8 [.i .i64 yxId,.i .i64 yxKind,.own 1 R1,.i .i64 yxSizeLow,.i .i64 yxSizeHigh,.own 1 R2,.i .i64 yxSpanxFrom,.i .i64 yxSpanxUntil] (⟨yxId,yxKind,yxColours,yxSizeLow,yxSizeHigh,yxPlaces,⟨yxSpanxFrom,yxSpanxUntil⟩⟩:Report):=⟨by obtain⟨rfl⟩:=H1;obtain⟨rfl⟩:=H2;rfl⟩
theorem QuW(xs:List Report):Qh (xs.map Qi8)=xs.map VN:=ZC (fun x=>by simp only[Qhp,Qnt,Q5,Vp,Qvr]) xs
theorem Qvl(xs:List Report):Qz (xs.map Qi8)=true:=X9 (fun x=>by simp only[Qhp,Vt,AV.clean,Bool.and_self,QwK]) xs
theorem Qul(x:Report):(⟨x.Id,x.Kind,x.Colours,x.SizeLow,x.SizeHigh,x.Places,x.Span⟩:Report)=x:=_root_.id rfl
def Qev(x:List Int):List AV:=[.imm 1 (x.map Qj)]
theorem QvY(x:List Int):Qev x=[.imm 1 (x.map Qj)]:=_root_.id rfl
instance{R}{x:List Int}[H:EncL Qj R x]:EncR Qev [.imm 1 R] x:=⟨by obtain⟨rfl⟩:=H;rfl⟩
theorem QuZ{R:List (List AV)}{xs:List (List Int)}(i:Int)[h:EncL Qev R xs]:inb R i=inb xs i:=by rw[h.eq,Qnv]
theorem Qus{R:List (List AV)}{xs:List (List Int)}(i:Int)[h:EncL Qev R xs](hi:inb xs i=true):QB R i.toNat=Qev (gt xs i):=by rw[h.eq,Qm2 xs i hi]
def QOf:=aI @QnN<|aI @Qvr<|aI @QwK<|aI @QEE<|aI @QEN<|aI @Qrv<|aI @QB5<|aI @QCu<|aI @QNU<|aI @QMc<|aI @QwO<|aI @QQe<|aI @QSm<|aI @QSr<|aI @QQU<|aI @QxU<|aI @QO6<|aI @QRp<|aI @QOl<|aI @QSp<|aI @Qpc<|aI @Qxn<|aI @QxL<|aI @QxC<|aI @QjN<|aI @QrL<|aI @QEr<|aI @QFx<|aI @QFr<|aI @QoH<|aI @Qsr<|aI @Qs1<|aI @QA7<|aI @QoL<|aI @Qop<|aI @Qoo<|aI @QBt<|aI @Qnk<|aI @Qnx<|aI @Qny<|aI @Qux<|aI @Qhz<|aI @Qlt<|aI @QwQ<|aI @Qw3<|aI @Qxz<|aI @Qoi<|aI @QsB<|aI @QsF<|aI @QAT<|aI @Qlj<|aI @Qo1<|aI @QqH<|aI @Qyr<|aI @Qlw<|aI @Qpn<|aI @QpC<|aI @Qv6<|aI @QoG<|aI @QsC<|aI @Qtn<|aI @QAd<|aI @QlU<|aI @Qpx<|aI @QpI<|aI @Qxd<|aI @Qpt<|aI @Qww<|aI @Qv1<|aI @QxM<|aI @Qjp<|aI @QrJ<|aI @QxE<|aI @Qyp<|aI @QDC<|aI @Qpy<|aI @QxP<|aI @QvO<|aI @QvX<|aI @QjY<|aI @Qlu<|aI @Qwh<|aI @QxS<|aI @QwX<|aI @QoA<|aI @QBs<|aI @QBd<|aI @Qz7<|aI @Qnt<|aI @QuW<|aI @Qvl<|aI @Qul<|aI @Qhp<|aI @Qyw<|aI @QvY<|aI @QuZ @Qus
theorem tys:bsl Tryz.prog 5=false∧Qda Tryz.prog 168=[0,0]∧Qda Tryz.prog 24=[0,0,0,0,0,0,0,0]∧Qda Tryz.prog 25=[0,2,0]∧Qda Tryz.prog 26=[0,0,0]∧Qda Tryz.prog 263=[1]∧Qda Tryz.prog 27=[0,0,0,0,0]∧Qda Tryz.prog 28=[0,0,0,0]∧Qda Tryz.prog 29=[0,0,0,0,0]∧Qda Tryz.prog 30=[0,0,0,0]∧Qda Tryz.prog 33=[0,0,0,0,0,0,0,0,0,2,0,0,0,3]∧Qda Tryz.prog 43=[0,0]∧Qda Tryz.prog 44=[0,0,0]∧Qda Tryz.prog 49=[0]∧Qda Tryz.prog 69=[0,8,3,3,5,4,5,4,0]∧Qda Tryz.prog 72=[0,0]∧tb Tryz.prog 119=some 16∧tb Tryz.prog 121=some 40∧tb Tryz.prog 141=some 24∧tb Tryz.prog 219=some 24∧tb Tryz.prog 3=some 8∧tb Tryz.prog 32=some 184∧tb Tryz.prog 42=some 64∧tb Tryz.prog 46=some 144∧tb Tryz.prog 53=some 40∧tb Tryz.prog 58=some 40∧tb Tryz.prog 60=some 32∧tb Tryz.prog 79=some 16∧tb Tryz.prog 99=some 32∧tbd Tryz.prog 119=.st [.i .i64 0,.i .i64 0] [(0,1),(1,1)]∧tbd Tryz.prog 121=.st [.i .i64 0,.nil,.i .i64 0] [(0,1),(1,1),(2,1)]∧tbd Tryz.prog 134=.st [.nil,.i .i64 0,.i .i64 0] [(0,1),(1,1),(2,1)]∧tbd Tryz.prog 141=.st [.i .i64 0,.i .i64 0,.i .i64 0] [(0,1),(1,1),(2,1)]∧tbd Tryz.prog 171=.st [.i .i64 0,.i .i64 0] [(0,1),(1,1)]∧tbd Tryz.prog 219=.st [.i .i64 0,.i .i64 0,.i .i64 0] [(0,1),(1,1),(2,1)]∧tbd Tryz.prog 32=.st [.i .i64 0,.nil,.nil,.nil,.nil,.nil,.nil,.nil,.i .i64 0] [(0,1),(1,1),(2,1),(3,1),(4,1),(5,1),(6,1),(7,1),(8,1)]∧tbd Tryz.prog 40=.st [.i .i64 0,.i .i64 0,.i .i64 0,.i .i64 0,.i .i64 0] [(0,1),(1,1),(2,1),(3,1),(4,1)]∧tbd Tryz.prog 42=.st [.i .i64 0,.i .i64 0,.i .i64 0,.i .i64 0,.i .i64 0,.i .i64 0,.i .i64 0,.i .i64 0] [(0,5),(5,1),(6,1),(7,1)]∧tbd Tryz.prog 46=.st [.i .i64 0,.i .i64 0,.i .i64 0,.i .i64 0,.i .i64 0,.i .i64 0,.i .i64 0,.i .i64 0,.i .i64 0,.nil,.i .i64 0,.i .i64 0,.i .i64 0,.nil] [(0,1),(1,8),(9,1),(10,1),(11,1),(12,1),(13,1)]∧tbd Tryz.prog 53=.st [.i .i64 0,.i .i64 0,.i .i64 0,.i .i64 0,.i .i64 0] [(0,1),(1,1),(2,1),(3,1),(4,1)]∧tbd Tryz.prog 58=.st [.i .i64 0,.i .i64 0,.i .i64 0,.i .i64 0,.i .i64 0] [(0,1),(1,1),(2,1),(3,1),(4,1)]∧tbd Tryz.prog 60=.st [.i .i64 0,.i .i64 0,.i .i64 0,.i .i64 0] [(0,1),(1,1),(2,1),(3,1)]∧tbd Tryz.prog 66=.st [.i .i64 0,.i .i64 0] [(0,1),(1,1)]∧tbd Tryz.prog 68=.st [.i .i64 0,.i .i64 0,.nil,.i .i64 0,.i .i64 0,.nil,.i .i64 0,.i .i64 0] [(0,1),(1,1),(2,1),(3,1),(4,1),(5,1),(6,2)]∧tbd Tryz.prog 79=.st [.i .i64 0,.i .i64 0] [(0,1),(1,1)]∧tbd Tryz.prog 99=.st [.i .i64 0,.i .i64 0,.i .i64 0,.i .i64 0] [(0,1),(1,1),(2,1),(3,1)]∧Qju Tryz.prog 4=some [.t]∧Qju Tryz.prog 79=some [.i,.i]∧tfo Tryz.prog 119 0=some (0,.one)∧tfo Tryz.prog 119 1=some (1,.one)∧tfo Tryz.prog 121 0=some (0,.one)∧tfo Tryz.prog 121 1=some (1,.one)∧tfo Tryz.prog 121 2=some (2,.one)∧tfo Tryz.prog 134 0=some (0,.one)∧tfo Tryz.prog 134 1=some (1,.one)∧tfo Tryz.prog 134 2=some (2,.one)∧tfo Tryz.prog 141 0=some (0,.one)∧tfo Tryz.prog 141 1=some (1,.one)∧tfo Tryz.prog 141 2=some (2,.one)∧tfo Tryz.prog 171 0=some (0,.one)∧tfo Tryz.prog 171 1=some (1,.one)∧tfo Tryz.prog 219 0=some (0,.one)∧tfo Tryz.prog 219 1=some (1,.one)∧tfo Tryz.prog 219 2=some (2,.one)∧tfo Tryz.prog 32 0=some (0,.one)∧tfo Tryz.prog 32 1=some (1,.one)∧tfo Tryz.prog 32 2=some (2,.one)∧tfo Tryz.prog 32 3=some (3,.one)∧tfo Tryz.prog 32 4=some (4,.one)∧tfo Tryz.prog 32 5=some (5,.one)∧tfo Tryz.prog 32 6=some (6,.one)∧tfo Tryz.prog 32 7=some (7,.one)∧tfo Tryz.prog 32 8=some (8,.one)∧tfo Tryz.prog 40 0=some (0,.one)∧tfo Tryz.prog 40 1=some (1,.one)∧tfo Tryz.prog 40 2=some (2,.one)∧tfo Tryz.prog 40 3=some (3,.one)∧tfo Tryz.prog 40 4=some (4,.one)∧tfo Tryz.prog 42 0=some (0,.agg 5)∧tfo Tryz.prog 42 1=some (5,.one)∧tfo Tryz.prog 42 2=some (6,.one)∧tfo Tryz.prog 42 3=some (7,.one)∧tfo Tryz.prog 46 0=some (0,.one)∧tfo Tryz.prog 46 1=some (1,.agg 8)∧tfo Tryz.prog 46 2=some (9,.one)∧tfo Tryz.prog 46 3=some (10,.one)∧tfo Tryz.prog 46 4=some (11,.one)∧tfo Tryz.prog 46 5=some (12,.one)∧tfo Tryz.prog 46 6=some (13,.one)∧tfo Tryz.prog 53 0=some (0,.one)∧tfo Tryz.prog 53 1=some (1,.one)∧tfo Tryz.prog 53 2=some (2,.one)∧tfo Tryz.prog 53 3=some (3,.one)∧tfo Tryz.prog 53 4=some (4,.one)∧tfo Tryz.prog 58 0=some (0,.one)∧tfo Tryz.prog 58 1=some (1,.one)∧tfo Tryz.prog 58 2=some (2,.one)∧tfo Tryz.prog 58 3=some (3,.one)∧tfo Tryz.prog 58 4=some (4,.one)∧tfo Tryz.prog 60 0=some (0,.one)∧tfo Tryz.prog 60 1=some (1,.one)∧tfo Tryz.prog 60 2=some (2,.one)∧tfo Tryz.prog 60 3=some (3,.one)∧tfo Tryz.prog 66 0=some (0,.one)∧tfo Tryz.prog 66 1=some (1,.one)∧tfo Tryz.prog 68 0=some (0,.one)∧tfo Tryz.prog 68 1=some (1,.one)∧tfo Tryz.prog 68 2=some (2,.one)∧tfo Tryz.prog 68 3=some (3,.one)∧tfo Tryz.prog 68 4=some (4,.one)∧tfo Tryz.prog 68 5=some (5,.one)∧tfo Tryz.prog 68 6=some (6,.agg 2)∧tfo Tryz.prog 79 0=some (0,.one)∧tfo Tryz.prog 99 0=some (0,.one)∧tfo Tryz.prog 99 1=some (1,.one)∧tfo Tryz.prog 99 2=some (2,.one)∧tfo Tryz.prog 99 3=some (3,.one)∧ti Tryz.prog 168=.sl 171 2∧ti Tryz.prog 22=.sl 5 1∧ti Tryz.prog 24=.sl 42 8∧ti Tryz.prog 25=.sl 121 3∧ti Tryz.prog 26=.sl 141 3∧ti Tryz.prog 263=.sl 49 1∧ti Tryz.prog 27=.sl 58 5∧ti Tryz.prog 28=.sl 60 4∧ti Tryz.prog 29=.sl 53 5∧ti Tryz.prog 3=.int .i64∧ti Tryz.prog 30=.sl 99 4∧ti Tryz.prog 33=.sl 46 14∧ti Tryz.prog 43=.sl 119 2∧ti Tryz.prog 44=.sl 219 3∧ti Tryz.prog 49=.sl 3 1∧ti Tryz.prog 69=.sl 32 9∧ti Tryz.prog 72=.sl 79 2∧tk Tryz.prog 121=.agg 3∧tk Tryz.prog 141=.agg 3∧tk Tryz.prog 219=.agg 3∧tk Tryz.prog 22=.one∧tk Tryz.prog 24=.one∧tk Tryz.prog 25=.one∧tk Tryz.prog 26=.one∧tk Tryz.prog 27=.one∧tk Tryz.prog 28=.one∧tk Tryz.prog 29=.one∧tk Tryz.prog 3=.one∧tk Tryz.prog 30=.one∧tk Tryz.prog 32=.agg 9∧tk Tryz.prog 40=.agg 5∧tk Tryz.prog 42=.agg 8∧tk Tryz.prog 43=.one∧tk Tryz.prog 44=.one∧tk Tryz.prog 46=.agg 14∧tk Tryz.prog 49=.one∧tk Tryz.prog 5=.one∧tk Tryz.prog 53=.agg 5∧tk Tryz.prog 58=.agg 5∧tk Tryz.prog 60=.agg 4∧tk Tryz.prog 66=.agg 2∧tk Tryz.prog 68=.agg 8∧tk Tryz.prog 79=.agg 2∧tk Tryz.prog 99=.agg 4∧ZS Tryz.prog 24=true∧ZS Tryz.prog 25=true∧ZS Tryz.prog 26=true∧ZS Tryz.prog 27=true∧ZS Tryz.prog 28=true∧ZS Tryz.prog 29=true∧ZS Tryz.prog 30=true∧ZS Tryz.prog 33=true∧ZS Tryz.prog 43=true∧ZS Tryz.prog 44=true∧ZS Tryz.prog 49=true∧ZS Tryz.prog 69=true∧ZS Tryz.prog 72=true∧tok Tryz.prog 5=true∧tse Tryz.prog 168=some (171,2,[.i .i64 0,.i .i64 0])∧tse Tryz.prog 24=some (42,8,[.i .i64 0,.i .i64 0,.i .i64 0,.i .i64 0,.i .i64 0,.i .i64 0,.i .i64 0,.i .i64 0])∧tse Tryz.prog 25=some (121,3,[.i .i64 0,.nil,.i .i64 0])∧tse Tryz.prog 26=some (141,3,[.i .i64 0,.i .i64 0,.i .i64 0])∧tse Tryz.prog 263=some (49,1,[.nil])∧tse Tryz.prog 27=some (58,5,[.i .i64 0,.i .i64 0,.i .i64 0,.i .i64 0,.i .i64 0])∧tse Tryz.prog 28=some (60,4,[.i .i64 0,.i .i64 0,.i .i64 0,.i .i64 0])∧tse Tryz.prog 29=some (53,5,[.i .i64 0,.i .i64 0,.i .i64 0,.i .i64 0,.i .i64 0])∧tse Tryz.prog 30=some (99,4,[.i .i64 0,.i .i64 0,.i .i64 0,.i .i64 0])∧tse Tryz.prog 33=some (46,14,[.i .i64 0,.i .i64 0,.i .i64 0,.i .i64 0,.i .i64 0,.i .i64 0,.i .i64 0,.i .i64 0,.i .i64 0,.nil,.i .i64 0,.i .i64 0,.i .i64 0,.nil])∧tse Tryz.prog 43=some (119,2,[.i .i64 0,.i .i64 0])∧tse Tryz.prog 44=some (219,3,[.i .i64 0,.i .i64 0,.i .i64 0])∧tse Tryz.prog 49=some (3,1,[.i .i64 0])∧tse Tryz.prog 69=some (32,9,[.i .i64 0,.nil,.nil,.nil,.nil,.nil,.nil,.nil,.i .i64 0])∧tse Tryz.prog 72=some (79,2,[.i .i64 0,.i .i64 0])∧tzc Tryz.prog 219=some [.i .i64 0,.i .i64 0,.i .i64 0]∧tzc Tryz.prog 32=some [.i .i64 0,.nil,.nil,.nil,.nil,.nil,.nil,.nil,.i .i64 0]∧tzc Tryz.prog 40=some [.i .i64 0,.i .i64 0,.i .i64 0,.i .i64 0,.i .i64 0]∧tzc Tryz.prog 42=some [.i .i64 0,.i .i64 0,.i .i64 0,.i .i64 0,.i .i64 0,.i .i64 0,.i .i64 0,.i .i64 0]∧tzc Tryz.prog 46=some [.i .i64 0,.i .i64 0,.i .i64 0,.i .i64 0,.i .i64 0,.i .i64 0,.i .i64 0,.i .i64 0,.i .i64 0,.nil,.i .i64 0,.i .i64 0,.i .i64 0,.nil]∧tzc Tryz.prog 53=some [.i .i64 0,.i .i64 0,.i .i64 0,.i .i64 0,.i .i64 0]∧tzc Tryz.prog 58=some [.i .i64 0,.i .i64 0,.i .i64 0,.i .i64 0,.i .i64 0]∧tzc Tryz.prog 60=some [.i .i64 0,.i .i64 0,.i .i64 0,.i .i64 0]∧tzc Tryz.prog 66=some [.i .i64 0,.i .i64 0]∧tzc Tryz.prog 68=some [.i .i64 0,.i .i64 0,.nil,.i .i64 0,.i .i64 0,.nil,.i .i64 0,.i .i64 0]∧tzc Tryz.prog 99=some [.i .i64 0,.i .i64 0,.i .i64 0,.i .i64 0]:=by and_intros<;>kernel_rfl
def xt(g:Nat)(args:List AV):Option AV:=match args with
 |[.nil,.i .i64 x]=>if g=269 then(Zi x).map fun r=>.own 1 (r.map Qj)else none
 |_=>none
def An4:Ann:={ av:=[(3,[20]),(15,[27])],jn:=[(16,(2,61,81))],lp:=[(10,⟨[0,4,6,8,9],[.s 6 2,.s 8 1],[0,4,8],[.s 8 1]⟩)],rt:=⟨[2],[],[],[]⟩ }
def An5:Ann:={}
def An8:Ann:={ jn:=[(1,(48,3,48)),(3,(86,49,86)),(5,(2,87,93))] }
def Qwb:Ann:={ ot:=[(11,.one 1 (.one 2 (.alt (.one 0 (.one 3 (.one 4 (.one 5 (.one 6 (.done)))))) (.one 3 (.one 0 (.one 4 (.one 5 (.one 6 (.done)))))))))],nr:=some [],av:=[(1,[30]),(3,[77]),(6,[31,32]),(7,[79]),(9,[80]),(10,[77,81]),(11,[77])],fz:=[(8,[6])],fc:=[(11,[(8,2),(8,5)])],lp:=[(4,⟨[0,2,5,6,7],[.s 2 0,.s 5 0,.s 6 9],[0,2,5,6],[.s 2 0,.s 5 0,.s 6 9]⟩)],sh:=[.a [0,0,1,0,0,1,0,0],.z 9,.n] }
def Qxv:Ann:={ ord:=[(5,[0,1,2,4,3,5])],lp:=[(3,⟨[2,3,7,11,12,13],[.s 3 0,.s 7 2],[7],[.s 7 2]⟩)],sh:=[.z 2] }
def QvJ:Ann:={ lp:=[(3,⟨[2,5,9,10,11],[.s 2 0,.s 5 2],[5],[.s 5 2]⟩)],sh:=[.z 2] }
def Qy9:Ann:={}
def Qyi:Ann:={ ord:=[(5,[0,1,2,4,3,5])],lp:=[(3,⟨[2,3,7,11,12,13],[.s 3 0,.s 7 1],[7],[.s 7 1]⟩)],sh:=[.z 1] }
def Qyx:Ann:={ lp:=[(2,⟨[0,1,5],[],[],[]⟩)],rt:=⟨[4],[],[],[]⟩ }
def QAs:Ann:={ ot:=[(3,.one 1 (.alt (.one 0 (.one 2 (.one 3 (.one 4 (.done))))) (.one 2 (.one 0 (.one 3 (.one 4 (.done)))))))],av:=[(1,[30]),(2,[85]),(3,[77])],sh:=[.a [0,8,3,3,5,4,5,4,0],.n] }
def QzI:Ann:={ nr:=some [],av:=[(1,[86]),(3,[30]),(5,[80])],fz:=[(4,[6]),(7,[8])],sh:=[.z 2,.z 2] }
def QvT:Ann:={ lp:=[(2,⟨[0,3],[],[],[]⟩)],rt:=⟨[2],[],[],[]⟩ }
def QAo:Ann:={ sh:=[.z 1] }
def Qxp:Ann:={ nr:=some [.s 32 0],jn:=[(3,(15,8,15))],lp:=[(3,⟨[0,3,4],[],[0,3],[]⟩)] }
def QAB:Ann:={ nr:=some [.r 0,.g 15 1 8,.g 15 2 3,.g 15 3 3,.g 15 4 5,.g 15 5 4,.g 15 6 5,.g 15 7 4],ak:=[0],av:=[(1,[77,91])],sh:=[.a [0,8,3,3,5,4,5,4,0]] }
def Qxo:Ann:={ nr:=some [.r 0,.s 26 14],ak:=[0],av:=[(1,[92]),(2,[77]),(5,[93])],lp:=[(3,⟨[0,5,6],[.s 0 0,.s 5 14],[0,5],[.s 0 0,.s 5 14]⟩)],sh:=[.z 14] }
def QzA:Ann:={ jn:=[(1,(6,7,15))] }
def QxV:Ann:={ jn:=[(6,(34,15,34))],lp:=[(4,⟨[0,8,9,10],[],[],[]⟩)],rt:=⟨[2],[],[],[]⟩ }
def QBq:Ann:={ jn:=[(1,(6,7,15))] }
def QvM:Ann:={ jn:=[(4,(35,10,35))],lp:=[(2,⟨[0,3],[],[0],[]⟩)],rt:=⟨[2],[],[],[]⟩ }
def QvR:Ann:={ jn:=[(4,(61,10,61))],lp:=[(2,⟨[0,3],[],[0],[]⟩)],rt:=⟨[2],[],[],[]⟩ }
def Qvb:Ann:={ jn:=[(4,(53,11,53)),(9,(77,59,77))],lp:=[(2,⟨[0,3],[],[0],[]⟩),(7,⟨[0,3,4],[],[0,3],[]⟩)],rt:=⟨[2],[],[],[]⟩ }
def Qvp:Ann:={ jn:=[(5,(58,16,58)),(10,(84,64,84))],lp:=[(2,⟨[0,3],[],[0],[]⟩),(8,⟨[0,3,4,5],[.s 4 0],[0,3],[]⟩)],rt:=⟨[2],[],[],[]⟩ }
def Qwe:Ann:={ jn:=[(3,(15,7,15)),(7,(67,25,67)),(10,(96,73,96))],lp:=[(3,⟨[0,3,4],[],[0],[]⟩)],rt:=⟨[2],[],[],[]⟩ }
def QxW:Ann:={ jn:=[(5,(58,15,58))],lp:=[(2,⟨[0,3],[],[0],[]⟩)],rt:=⟨[2],[],[],[]⟩ }
def Qrk:Ann:={ ord:=[(13,[0,1,2,3,4,5,6,7,8,9,10,11,14,15,12,13,16,17,18,19,20,21,22,23,24,25,26,27,28,29])],jn:=[(13,(77,48,77)),(18,(103,85,103))],lp:=[(5,⟨[1,3,4],[.s 1 0,.s 3 1],[1,3],[.s 1 0,.s 3 1]⟩),(10,⟨[1,3,5],[.s 1 0,.s 3 1],[1],[.s 1 0]⟩),(16,⟨[1,7],[.s 1 0],[],[]⟩)],rt:=⟨[2],[],[],[]⟩ }
def Qwn:Ann:={ ord:=[(8,[0,1,2,3,4,5,6,7,8,9,10,11,12,13,14,15,16,17,18,19,20,21,22,23,24,25,26,27,28,29,30,32,33,34,35,36,38,31,37,39,40,41,42,43,44,45,46,47])],jn:=[(8,(77,30,77))],lp:=[(4,⟨[1,3],[.s 1 0],[],[]⟩)],rt:=⟨[2],[],[],[]⟩ }
def Qzu:Ann:={}
def QAa:Ann:={ ak:=[0],av:=[(4,[149]),(5,[149]),(6,[149]),(7,[149])] }
def QwF:Ann:={ lp:=[(3,⟨[1,4,5,6],[.s 4 0,.s 5 0,.c 1 1 8,.c 1 2 3,.c 1 3 3,.c 1 4 5,.c 1 5 4,.c 1 6 5,.c 1 7 4],[4,5],[.s 4 0,.s 5 0,.c 1 1 8,.c 1 2 3,.c 1 3 3,.c 1 4 5,.c 1 5 4,.c 1 6 5,.c 1 7 4]⟩)],sh:=[.a [0,8,3,3,5,4,5,4,0]] }
def QyR:Ann:={ nr:=some [.r 0,.g 62 2 1,.g 62 5 1],ak:=[0],av:=[(1,[77,152]),(2,[77]),(4,[153]),(6,[153]),(8,[153]),(10,[154]),(12,[154]),(14,[153]),(16,[155])],sh:=[.a [0,0,1,0,0,1,0,0]] }
def QA8:Ann:={ ak:=[0],av:=[(1,[77])] }
def An81:Ann:={ ot:=[(6,.one 3 (.alt (.one 0 (.alt (.one 1 (.alt (.one 2 (.one 4 (.one 5 (.one 6 (.one 7 (.one 8 (.done))))))) (.one 4 (.one 2 (.one 5 (.one 6 (.one 7 (.one 8 (.done))))))))) (.one 4 (.one 1 (.one 2 (.one 5 (.one 6 (.one 7 (.one 8 (.done)))))))))) (.one 4 (.one 0 (.one 1 (.one 2 (.one 5 (.one 6 (.one 7 (.one 8 (.done))))))))))),(7,.one 3 (.alt (.one 0 (.alt (.one 1 (.alt (.one 2 (.one 4 (.one 5 (.one 6 (.one 7 (.one 8 (.done))))))) (.one 4 (.one 2 (.one 5 (.one 6 (.one 7 (.one 8 (.done))))))))) (.one 4 (.one 1 (.one 2 (.one 5 (.one 6 (.one 7 (.one 8 (.done)))))))))) (.one 4 (.one 0 (.one 1 (.one 2 (.one 5 (.one 6 (.one 7 (.one 8 (.done))))))))))),(11,.one 2 (.alt (.one 0 (.alt (.one 1 (.alt (.one 3 (.one 4 (.one 6 (.one 7 (.one 5 (.one 8 (.one 9 (.one 10 (.one 11 (.done)))))))))) (.one 6 (.alt (.one 3 (.one 4 (.one 7 (.one 5 (.one 8 (.one 9 (.one 10 (.one 11 (.done))))))))) (.one 7 (.one 3 (.one 4 (.one 5 (.one 8 (.one 9 (.one 10 (.one 11 (.done))))))))))))) (.alt (.one 3 (.one 1 (.one 4 (.one 6 (.one 7 (.one 5 (.one 8 (.one 9 (.one 10 (.one 11 (.done))))))))))) (.one 6 (.alt (.one 1 (.alt (.one 3 (.one 4 (.one 7 (.one 5 (.one 8 (.one 9 (.one 10 (.one 11 (.done))))))))) (.one 7 (.one 3 (.one 4 (.one 5 (.one 8 (.one 9 (.one 10 (.one 11 (.done))))))))))) (.alt (.one 3 (.one 1 (.one 4 (.one 7 (.one 5 (.one 8 (.one 9 (.one 10 (.one 11 (.done)))))))))) (.one 7 (.alt (.one 1 (.one 3 (.one 4 (.one 5 (.one 8 (.one 9 (.one 10 (.one 11 (.done))))))))) (.one 3 (.one 1 (.one 4 (.one 5 (.one 8 (.one 9 (.one 10 (.one 11 (.done))))))))))))))))) (.alt (.one 3 (.one 0 (.one 1 (.one 4 (.one 6 (.one 7 (.one 5 (.one 8 (.one 9 (.one 10 (.one 11 (.done)))))))))))) (.one 6 (.alt (.one 0 (.alt (.one 1 (.alt (.one 3 (.one 4 (.one 7 (.one 5 (.one 8 (.one 9 (.one 10 (.one 11 (.done))))))))) (.one 7 (.one 3 (.one 4 (.one 5 (.one 8 (.one 9 (.one 10 (.one 11 (.done))))))))))) (.alt (.one 3 (.one 1 (.one 4 (.one 7 (.one 5 (.one 8 (.one 9 (.one 10 (.one 11 (.done)))))))))) (.one 7 (.alt (.one 1 (.one 3 (.one 4 (.one 5 (.one 8 (.one 9 (.one 10 (.one 11 (.done))))))))) (.one 3 (.one 1 (.one 4 (.one 5 (.one 8 (.one 9 (.one 10 (.one 11 (.done)))))))))))))) (.alt (.one 3 (.one 0 (.one 1 (.one 4 (.one 7 (.one 5 (.one 8 (.one 9 (.one 10 (.one 11 (.done))))))))))) (.one 7 (.alt (.one 0 (.alt (.one 1 (.one 3 (.one 4 (.one 5 (.one 8 (.one 9 (.one 10 (.one 11 (.done))))))))) (.one 3 (.one 1 (.one 4 (.one 5 (.one 8 (.one 9 (.one 10 (.one 11 (.done))))))))))) (.one 3 (.one 0 (.one 1 (.one 4 (.one 5 (.one 8 (.one 9 (.one 10 (.one 11 (.done))))))))))))))))))],nr:=some [.r 0,.g 64 2 1,.g 64 5 1],ak:=[0],av:=[(1,[152]),(3,[80]),(5,[80]),(6,[77]),(7,[77]),(8,[80]),(10,[80]),(11,[77])],sh:=[.a [0,0,1,0,0,1,0,0]] }
def QAP:Ann:={}
def QwB:Ann:={ lp:=[(3,⟨[2,3,5,10,11,12],[.s 2 0,.s 3 0,.s 5 2,.s 10 8],[5],[.s 5 2]⟩)],sh:=[.z 2] }
def QvN:Ann:={ lp:=[(4,⟨[0,1,12,13],[],[],[]⟩)],rt:=⟨[4],[],[],[]⟩ }
def Qz4:Ann:={ ot:=[(8,.one 2 (.alt (.one 0 (.alt (.one 1 (.alt (.one 3 (.one 4 (.one 5 (.one 6 (.one 7 (.one 8 (.one 9 (.one 10 (.one 11 (.one 12 (.one 13 (.done)))))))))))) (.one 5 (.alt (.one 3 (.one 4 (.one 6 (.one 7 (.one 8 (.one 9 (.one 10 (.one 11 (.one 12 (.one 13 (.done))))))))))) (.one 6 (.one 3 (.one 4 (.one 7 (.one 8 (.one 9 (.one 10 (.one 11 (.one 12 (.one 13 (.done))))))))))))))) (.alt (.one 3 (.one 1 (.one 4 (.one 5 (.one 6 (.one 7 (.one 8 (.one 9 (.one 10 (.one 11 (.one 12 (.one 13 (.done))))))))))))) (.one 5 (.alt (.one 1 (.alt (.one 3 (.one 4 (.one 6 (.one 7 (.one 8 (.one 9 (.one 10 (.one 11 (.one 12 (.one 13 (.done))))))))))) (.one 6 (.one 3 (.one 4 (.one 7 (.one 8 (.one 9 (.one 10 (.one 11 (.one 12 (.one 13 (.done))))))))))))) (.alt (.one 3 (.one 1 (.one 4 (.one 6 (.one 7 (.one 8 (.one 9 (.one 10 (.one 11 (.one 12 (.one 13 (.done)))))))))))) (.one 6 (.alt (.one 1 (.one 3 (.one 4 (.one 7 (.one 8 (.one 9 (.one 10 (.one 11 (.one 12 (.one 13 (.done))))))))))) (.one 3 (.one 1 (.one 4 (.one 7 (.one 8 (.one 9 (.one 10 (.one 11 (.one 12 (.one 13 (.done))))))))))))))))))) (.alt (.one 3 (.one 0 (.one 1 (.one 4 (.one 5 (.one 6 (.one 7 (.one 8 (.one 9 (.one 10 (.one 11 (.one 12 (.one 13 (.done)))))))))))))) (.one 5 (.alt (.one 0 (.alt (.one 1 (.alt (.one 3 (.one 4 (.one 6 (.one 7 (.one 8 (.one 9 (.one 10 (.one 11 (.one 12 (.one 13 (.done))))))))))) (.one 6 (.one 3 (.one 4 (.one 7 (.one 8 (.one 9 (.one 10 (.one 11 (.one 12 (.one 13 (.done))))))))))))) (.alt (.one 3 (.one 1 (.one 4 (.one 6 (.one 7 (.one 8 (.one 9 (.one 10 (.one 11 (.one 12 (.one 13 (.done)))))))))))) (.one 6 (.alt (.one 1 (.one 3 (.one 4 (.one 7 (.one 8 (.one 9 (.one 10 (.one 11 (.one 12 (.one 13 (.done))))))))))) (.one 3 (.one 1 (.one 4 (.one 7 (.one 8 (.one 9 (.one 10 (.one 11 (.one 12 (.one 13 (.done)))))))))))))))) (.alt (.one 3 (.one 0 (.one 1 (.one 4 (.one 6 (.one 7 (.one 8 (.one 9 (.one 10 (.one 11 (.one 12 (.one 13 (.done))))))))))))) (.one 6 (.alt (.one 0 (.alt (.one 1 (.one 3 (.one 4 (.one 7 (.one 8 (.one 9 (.one 10 (.one 11 (.one 12 (.one 13 (.done))))))))))) (.one 3 (.one 1 (.one 4 (.one 7 (.one 8 (.one 9 (.one 10 (.one 11 (.one 12 (.one 13 (.done))))))))))))) (.one 3 (.one 0 (.one 1 (.one 4 (.one 7 (.one 8 (.one 9 (.one 10 (.one 11 (.one 12 (.one 13 (.done))))))))))))))))))))],nr:=some [.r 0,.g 53 1 8,.g 53 2 3,.g 53 3 3,.g 53 4 5,.g 53 5 4,.g 53 6 5,.g 53 7 4],ak:=[0],av:=[(1,[31,32]),(2,[77]),(8,[77])],sh:=[.a [0,8,3,3,5,4,5,4,0]] }
def QzF:Ann:={ nr:=some [],av:=[(1,[20])],sh:=[.a [0,0,1,0,0,1,0,0],.z 9] }
def Qxf:Ann:={ lp:=[(3,⟨[1,2,5,6],[.s 2 0,.s 5 2],[5],[.s 5 2]⟩)],sh:=[.z 2] }
def QxX:Ann:={ lp:=[(5,⟨[1,5,13,14,15],[.s 5 1],[5],[.s 5 1]⟩)],sh:=[.z 1] }
def QxG:Ann:={ lp:=[(3,⟨[1,3,8,9,10],[.s 1 0,.s 3 8],[3],[.s 3 8]⟩)],sh:=[.z 8] }
def Qy0:Ann:={ jn:=[(2,(20,11,20))],sh:=[.a [0,8,3,3,5,4,5,4,0],.n] }
def Qwm:Ann:={ nr:=some [.r 0,.s 23 3],ak:=[0],av:=[(3,[77]),(5,[77])],lp:=[(3,⟨[0,3,4],[.s 0 0,.s 3 3],[0,3],[.s 0 0,.s 3 3]⟩)],sh:=[.z 3] }
def Qzg:Ann:={ ot:=[(5,.one 1 (.one 4 (.alt (.one 0 (.one 2 (.alt (.one 3 (.one 5 (.one 6 (.one 7 (.one 8 (.one 9 (.done))))))) (.one 5 (.one 3 (.one 6 (.one 7 (.one 8 (.one 9 (.done)))))))))) (.one 2 (.alt (.one 0 (.alt (.one 3 (.one 5 (.one 6 (.one 7 (.one 8 (.one 9 (.done))))))) (.one 5 (.one 3 (.one 6 (.one 7 (.one 8 (.one 9 (.done))))))))) (.alt (.one 3 (.alt (.one 0 (.one 5 (.one 6 (.one 7 (.one 8 (.one 9 (.done))))))) (.one 5 (.one 0 (.one 6 (.one 7 (.one 8 (.one 9 (.done))))))))) (.one 5 (.one 0 (.one 3 (.one 6 (.one 7 (.one 8 (.one 9 (.done))))))))))))))],nr:=some [.r 0,.g 29 9 2,.g 29 13 3],ak:=[0],av:=[(1,[168]),(3,[77]),(4,[153]),(5,[77])],sh:=[.a [0,0,0,0,0,0,0,0,0,2,0,0,0,3]] }
def QzH:Ann:={ nr:=some [.r 0,.g 45 9 2,.g 45 13 3],ak:=[0],av:=[(1,[77,153]),(4,[77,92]),(6,[77]),(8,[169]),(10,[153])],sh:=[.a [0,0,0,0,0,0,0,0,0,2,0,0,0,3]] }
def QAC:Ann:={ jn:=[(1,(2,3,21))] }
def QAn:Ann:={}
def QtJ:Ann:={ jn:=[(1,(2,3,21))] }
def QpK:Ann:={ jn:=[(4,(43,10,43))],lp:=[(2,⟨[0,3],[],[0],[]⟩)],rt:=⟨[2],[],[],[]⟩ }
def Qse:Ann:={}
def Qpm:Ann:={ lp:=[(3,⟨[0,1,2,7,8],[],[7],[]⟩)] }
def Qqz:Ann:={ jn:=[(3,(16,9,16)),(6,(42,28,42))],lp:=[(3,⟨[0,1,5,6],[.s 5 1],[5],[.s 5 1]⟩)],sh:=[.z 1] }
def QqB:Ann:={ lp:=[(2,⟨[0,1,5],[],[],[]⟩)],rt:=⟨[4],[],[],[]⟩ }
def QpN:Ann:={ jn:=[(4,(22,12,22))],lp:=[(2,⟨[0,1,5],[],[],[]⟩)],rt:=⟨[4],[],[],[]⟩ }
def Qqm:Ann:={ lp:=[(2,⟨[0,1,5],[],[],[]⟩)],rt:=⟨[4],[],[],[]⟩ }
def Qs9:Ann:={ jn:=[(1,(2,3,26))] }
def Qtb:Ann:={ jn:=[(1,(5,6,19)),(3,(19,20,30))] }
def Qsi:Ann:={ sh:=[.z 2] }
def Qp6:Ann:={ lp:=[(2,⟨[0,1,7,8],[],[],[]⟩)],rt:=⟨[4],[],[],[]⟩ }
def QsP:Ann:={}
def Qsp:Ann:={ ot:=[(2,.one 0 (.one 5 (.alt (.one 1 (.alt (.one 2 (.alt (.one 3 (.one 4 (.one 6 (.one 7 (.one 8 (.one 9 (.one 10 (.one 11 (.one 12 (.done)))))))))) (.one 6 (.one 3 (.one 4 (.one 7 (.one 8 (.one 9 (.one 10 (.one 11 (.one 12 (.done)))))))))))) (.one 6 (.one 2 (.one 3 (.one 4 (.one 7 (.one 8 (.one 9 (.one 10 (.one 11 (.one 12 (.done))))))))))))) (.one 6 (.alt (.one 1 (.one 2 (.one 3 (.one 4 (.one 7 (.one 8 (.one 9 (.one 10 (.one 11 (.one 12 (.done))))))))))) (.one 7 (.alt (.one 1 (.one 2 (.one 3 (.one 4 (.one 8 (.one 9 (.one 10 (.one 11 (.one 12 (.done)))))))))) (.one 8 (.one 9 (.one 1 (.one 2 (.one 3 (.one 4 (.one 10 (.one 11 (.one 12 (.done))))))))))))))))),(3,.one 0 (.one 4 (.alt (.one 1 (.alt (.one 2 (.alt (.one 3 (.one 5 (.one 6 (.one 7 (.one 8 (.one 9 (.done))))))) (.one 5 (.one 3 (.one 6 (.one 7 (.one 8 (.one 9 (.done))))))))) (.one 5 (.one 2 (.one 3 (.one 6 (.one 7 (.one 8 (.one 9 (.done)))))))))) (.one 5 (.alt (.one 1 (.one 2 (.one 3 (.one 6 (.one 7 (.one 8 (.one 9 (.done)))))))) (.one 6 (.alt (.one 1 (.one 2 (.one 3 (.one 7 (.one 8 (.one 9 (.done))))))) (.one 7 (.alt (.one 1 (.one 2 (.one 3 (.one 8 (.one 9 (.done)))))) (.one 8 (.one 1 (.one 2 (.one 3 (.one 9 (.done))))))))))))))),(4,.one 0 (.one 1 (.one 5 (.alt (.one 2 (.alt (.one 3 (.alt (.one 4 (.one 6 (.one 7 (.one 8 (.one 9 (.one 10 (.one 11 (.one 12 (.one 13 (.one 14 (.done))))))))))) (.one 6 (.one 4 (.one 7 (.one 8 (.one 9 (.one 10 (.one 11 (.one 12 (.one 13 (.one 14 (.done))))))))))))) (.one 6 (.one 3 (.one 4 (.one 7 (.one 8 (.one 9 (.one 10 (.one 11 (.one 12 (.one 13 (.one 14 (.done)))))))))))))) (.one 6 (.alt (.one 2 (.one 3 (.one 4 (.one 7 (.one 8 (.one 9 (.one 10 (.one 11 (.one 12 (.one 13 (.one 14 (.done)))))))))))) (.one 7 (.alt (.one 2 (.one 3 (.one 4 (.one 8 (.one 9 (.one 10 (.one 11 (.one 12 (.one 13 (.one 14 (.done))))))))))) (.one 8 (.one 2 (.one 3 (.one 4 (.one 9 (.one 10 (.one 11 (.one 12 (.one 13 (.one 14 (.done)))))))))))))))))))],ak:=[0] }
def Qsh:Ann:={ ord:=[(1,[0,1,2,3,4,6,7,9,10,11,13,14,15,17,18,19,21,22,23,25,26,27,29,30,5,8,12,16,20,24,28,31,32])],eb:=[(1,[5,12,16,20,24,28])],sh:=[.a [0,8,3,3,5,4,5,4,0]] }
def Qtp:Ann:={ sh:=[.a [0,8,3,3,5,4,5,4,0],.n] }
def Qt3:Ann:={ nr:=some [.r 0,.g 25 2 1,.g 25 5 1],ak:=[0],av:=[(1,[77]),(2,[77,215,216])],sh:=[.a [0,0,1,0,0,1,0,0]] }
def QtZ:Ann:={ ak:=[0,1],av:=[(1,[77])] }
def QsK:Ann:={ ak:=[0],av:=[(1,[153])] }
def QsE:Ann:={ ak:=[0],av:=[(1,[216]),(2,[77]),(4,[154]),(6,[153])] }
def Qtr:Ann:={}
def Qty:Ann:={}
def Qq2:Ann:={ lp:=[(3,⟨[1,5,9,10,11],[.s 9 1],[5],[]⟩)] }
def Qng:Ann:={ lp:=[(5,⟨[1,2,5,13],[.s 2 0,.s 5 1],[5],[.s 5 1]⟩),(8,⟨[1,2,5,6,7,13],[.s 2 0,.s 5 1],[1,2,5,13],[.s 2 0,.s 5 1]⟩)],sh:=[.z 1] }
def Qs5:Ann:={}
def QtQ:Ann:={ ot:=[(5,.one 1 (.alt (.one 0 (.alt (.one 2 (.one 3 (.one 4 (.one 5 (.one 6 (.done)))))) (.one 3 (.alt (.one 2 (.one 4 (.one 5 (.one 6 (.done))))) (.one 4 (.one 2 (.one 5 (.one 6 (.done))))))))) (.one 3 (.alt (.one 0 (.alt (.one 2 (.one 4 (.one 5 (.one 6 (.done))))) (.one 4 (.one 2 (.one 5 (.one 6 (.done))))))) (.one 4 (.one 0 (.one 2 (.one 5 (.one 6 (.done))))))))))],sh:=[.z 5,.n] }
def QqJ:Ann:={ jn:=[(3,(21,15,21))],lp:=[(6,⟨[6,7,8],[.s 6 3],[6],[.s 6 3]⟩)],sh:=[.z 3,.n] }
def Qs3:Ann:={ ot:=[(1,.one 1 (.alt (.one 0 (.alt (.one 2 (.one 3 (.one 4 (.one 5 (.one 6 (.done)))))) (.one 3 (.alt (.one 2 (.one 4 (.one 5 (.one 6 (.done))))) (.one 4 (.one 2 (.one 5 (.one 6 (.done))))))))) (.one 3 (.alt (.one 0 (.alt (.one 2 (.one 4 (.one 5 (.one 6 (.done))))) (.one 4 (.one 2 (.one 5 (.one 6 (.done))))))) (.one 4 (.one 0 (.one 2 (.one 5 (.one 6 (.done))))))))))],sh:=[.z 4,.n] }
def QpJ:Ann:={ lp:=[(4,⟨[2,3,5,6,7],[.s 2 0,.s 3 0,.s 5 2,.s 6 8],[5],[.s 5 2]⟩)],sh:=[.z 2] }
def Qt5:Ann:={}
def Qsz:Ann:={ ac:=[(2,0),(3,0)],sh:=[.z 1] }
def Qqd:Ann:={ lp:=[(3,⟨[0,3,4],[],[3],[]⟩)] }
def QsT:Ann:={ ak:=[0],av:=[(1,[77,225])] }
def QqP:Ann:={ nr:=some [.r 0,.s 57 3],ak:=[0],av:=[(3,[77]),(5,[77]),(9,[77]),(10,[77]),(12,[153]),(14,[153])],lp:=[(3,⟨[0,3,4],[.s 0 0,.s 3 3],[0,3],[.s 0 0,.s 3 3]⟩)],sh:=[.z 3] }
def Qth:Ann:={ jn:=[(1,(2,3,26))] }
def Qpb:Ann:={ lp:=[(3,⟨[3,6,7,8],[],[3],[]⟩)] }
def Qpi:Ann:={ lp:=[(2,⟨[0,1,7,8],[],[],[]⟩)],rt:=⟨[4],[],[],[]⟩ }
def Qt2:Ann:={ jn:=[(1,(2,3,26))] }
def Qo5:Ann:={ lp:=[(3,⟨[0,3,4],[],[3],[]⟩)] }
def QpB:Ann:={ ot:=[(6,.one 1 (.one 2 (.one 3 (.one 5 (.one 8 (.one 9 (.one 10 (.alt (.one 0 (.alt (.one 4 (.one 6 (.one 7 (.one 11 (.one 12 (.done)))))) (.one 6 (.one 4 (.one 7 (.one 11 (.one 12 (.done)))))))) (.one 6 (.one 0 (.one 4 (.one 7 (.one 11 (.one 12 (.done)))))))))))))))],jn:=[(2,(17,6,17)),(4,(31,20,31))],lp:=[(2,⟨[0,1,5],[],[0,1,5],[]⟩)],sh:=[.z 1] }
def QsW:Ann:={}
def Qpd:Ann:={ lp:=[(2,⟨[0,1,5],[],[],[]⟩)],rt:=⟨[4],[],[],[]⟩ }
def Qqh:Ann:={ ord:=[(5,[0,1,2,3,4,5,6,7,8,9,10,11,13,14,15,16,17,12,18,19,20,21])],eb:=[(5,[18])],lp:=[(3,⟨[0,3,4],[.s 3 3],[3],[.s 3 3]⟩)],sh:=[.z 3] }
def QtP:Ann:={ av:=[(10,[254])],sh:=[.a [0,8,3,3,5,4,5,4,0],.n] }
def QqQ:Ann:={ ot:=[(7,.one 0 (.one 1 (.one 2 (.one 3 (.one 4 (.one 6 (.one 7 (.one 12 (.alt (.one 5 (.alt (.one 8 (.alt (.one 9 (.one 10 (.one 11 (.one 13 (.one 14 (.one 15 (.one 16 (.done)))))))) (.one 10 (.alt (.one 9 (.one 11 (.one 13 (.one 14 (.one 15 (.one 16 (.done))))))) (.one 11 (.one 13 (.one 9 (.one 14 (.one 15 (.one 16 (.done))))))))))) (.one 10 (.alt (.one 8 (.alt (.one 9 (.one 11 (.one 13 (.one 14 (.one 15 (.one 16 (.done))))))) (.one 11 (.one 13 (.one 9 (.one 14 (.one 15 (.one 16 (.done))))))))) (.one 11 (.one 13 (.one 8 (.one 9 (.one 14 (.one 15 (.one 16 (.done)))))))))))) (.alt (.one 8 (.alt (.one 5 (.alt (.one 9 (.one 10 (.one 11 (.one 13 (.one 14 (.one 15 (.one 16 (.done)))))))) (.one 10 (.alt (.one 9 (.one 11 (.one 13 (.one 14 (.one 15 (.one 16 (.done))))))) (.one 11 (.one 13 (.one 9 (.one 14 (.one 15 (.one 16 (.done))))))))))) (.one 10 (.alt (.one 5 (.alt (.one 9 (.one 11 (.one 13 (.one 14 (.one 15 (.one 16 (.done))))))) (.one 11 (.one 13 (.one 9 (.one 14 (.one 15 (.one 16 (.done))))))))) (.one 11 (.one 13 (.one 5 (.one 9 (.one 14 (.one 15 (.one 16 (.done)))))))))))) (.one 10 (.alt (.one 5 (.alt (.one 8 (.alt (.one 9 (.one 11 (.one 13 (.one 14 (.one 15 (.one 16 (.done))))))) (.one 11 (.one 13 (.one 9 (.one 14 (.one 15 (.one 16 (.done))))))))) (.one 11 (.one 13 (.one 8 (.one 9 (.one 14 (.one 15 (.one 16 (.done)))))))))) (.alt (.one 8 (.alt (.one 5 (.alt (.one 9 (.one 11 (.one 13 (.one 14 (.one 15 (.one 16 (.done))))))) (.one 11 (.one 13 (.one 9 (.one 14 (.one 15 (.one 16 (.done))))))))) (.one 11 (.one 13 (.one 5 (.one 9 (.one 14 (.one 15 (.one 16 (.done)))))))))) (.one 11 (.one 13 (.alt (.one 5 (.one 8 (.one 9 (.one 14 (.one 15 (.one 16 (.done))))))) (.one 8 (.one 5 (.one 9 (.one 14 (.one 15 (.one 16 (.done)))))))))))))))))))))))],eb:=[(7,[47])],av:=[(8,[254])],jn:=[(5,(44,30,44))],lp:=[(5,⟨[1,3,4,8,10,12,13],[.s 4 0,.s 8 0,.s 10 0,.c 2 1 8,.c 2 2 3,.c 2 3 3,.c 2 4 5,.c 2 5 4,.c 2 6 5,.c 2 7 4],[1,3,4,8,10,12,13],[.s 4 0,.s 8 0,.s 10 0,.c 2 1 8,.c 2 2 3,.c 2 3 3,.c 2 4 5,.c 2 5 4,.c 2 6 5,.c 2 7 4]⟩)],sh:=[.a [0,8,3,3,5,4,5,4,0],.n] }
def Qta:Ann:={ av:=[(13,[254])],jn:=[(3,(34,19,34))],sh:=[.a [0,8,3,3,5,4,5,4,0],.n] }
def QsJ:Ann:={ ot:=[(9,.one 0 (.one 1 (.one 2 (.one 3 (.one 4 (.one 5 (.one 6 (.one 7 (.one 8 (.one 9 (.one 10 (.one 11 (.one 12 (.one 13 (.one 14 (.one 15 (.one 16 (.one 17 (.alt (.one 18 (.alt (.one 19 (.one 20 (.one 21 (.one 22 (.one 23 (.one 24 (.one 25 (.done)))))))) (.one 23 (.one 19 (.one 20 (.one 21 (.one 22 (.one 24 (.one 25 (.done)))))))))) (.one 23 (.one 18 (.one 19 (.one 20 (.one 21 (.one 22 (.one 24 (.one 25 (.done))))))))))))))))))))))))))))],av:=[(9,[261]),(10,[254])],jn:=[(3,(33,23,33))],sh:=[.a [0,8,3,3,5,4,5,4,0],.n] }
def Qtd:Ann:={ ot:=[(9,.one 0 (.one 1 (.one 2 (.one 3 (.one 4 (.one 5 (.one 6 (.one 7 (.one 8 (.alt (.one 9 (.one 10 (.one 11 (.one 12 (.one 13 (.one 14 (.one 15 (.done)))))))) (.one 13 (.one 9 (.one 10 (.one 11 (.one 12 (.one 14 (.one 15 (.done))))))))))))))))))],av:=[(6,[261]),(9,[261]),(10,[254]),(11,[254])],jn:=[(3,(50,27,50))],sh:=[.a [0,8,3,3,5,4,5,4,0],.n] }
def QsV:Ann:={ ot:=[(6,.one 0 (.one 1 (.one 2 (.one 3 (.one 4 (.one 5 (.one 6 (.one 7 (.alt (.one 8 (.one 9 (.one 10 (.one 11 (.one 12 (.one 13 (.one 14 (.done)))))))) (.one 12 (.one 8 (.one 9 (.one 10 (.one 11 (.one 13 (.one 14 (.done)))))))))))))))))],av:=[(7,[254]),(11,[254])],jn:=[(2,(21,15,21))],sh:=[.a [0,8,3,3,5,4,5,4,0],.n] }
def QtI:Ann:={ av:=[(5,[254])],jn:=[(2,(17,9,17))],sh:=[.a [0,8,3,3,5,4,5,4,0],.n] }
def Qqe:Ann:={ nr:=some [.r 0,.s 26 1],ak:=[0],av:=[(5,[80])],lp:=[(3,⟨[0,2,3,9,10],[.s 0 0,.s 9 1],[0,9],[.s 0 0,.s 9 1]⟩)],sh:=[.z 1] }
def Qsn:Ann:={ ak:=[0],av:=[(1,[77]),(2,[77])] }
def QtD:Ann:={ jn:=[(1,(2,3,49))] }
def QsZ:Ann:={ jn:=[(1,(4,5,13))] }
def Qsv:Ann:={}
def QsL:Ann:={ jn:=[(1,(5,6,14))] }
def Qqr:Ann:={ lp:=[(3,⟨[1,3,4],[.s 1 0,.s 3 8],[3],[.s 3 8]⟩)],sh:=[.z 8] }
def QtU:Ann:={}
def QnE:Ann:={ lp:=[(3,⟨[0,3,9,10,11],[],[0,3],[]⟩),(11,⟨[6,25,26,27],[.s 6 1],[6],[.s 6 1]⟩)],sh:=[.z 1] }
def QtN:Ann:={ ak:=[0],av:=[(1,[77])] }
def Qst:Ann:={}
def QsX:Ann:={}
def QsQ:Ann:={}
def Qps:Ann:={ ot:=[(4,.one 1 (.one 2 (.one 3 (.one 8 (.one 9 (.one 10 (.alt (.one 0 (.alt (.one 4 (.one 5 (.one 6 (.one 7 (.one 11 (.one 12 (.done))))))) (.one 5 (.alt (.one 4 (.one 6 (.one 7 (.one 11 (.one 12 (.done)))))) (.one 6 (.one 4 (.one 7 (.one 11 (.one 12 (.done)))))))))) (.one 5 (.alt (.one 0 (.alt (.one 4 (.one 6 (.one 7 (.one 11 (.one 12 (.done)))))) (.one 6 (.one 4 (.one 7 (.one 11 (.one 12 (.done)))))))) (.one 6 (.one 0 (.one 4 (.one 7 (.one 11 (.one 12 (.done))))))))))))))))],jn:=[(2,(23,8,23))],lp:=[(2,⟨[0,3,6],[.s 3 0],[0,3,6],[.s 3 0]⟩)],sh:=[.z 8,.n] }
def Qpv:Ann:={ ot:=[(4,.one 0 (.one 1 (.one 2 (.one 4 (.one 8 (.one 9 (.one 10 (.alt (.one 3 (.one 5 (.one 6 (.one 7 (.one 11 (.one 12 (.one 13 (.done)))))))) (.one 5 (.one 3 (.one 6 (.one 7 (.one 11 (.one 12 (.one 13 (.done))))))))))))))))],jn:=[(2,(21,8,21))],lp:=[(2,⟨[0,3,6],[.s 3 0],[0,3,6],[.s 3 0]⟩)],sh:=[.z 3,.n] }
def QoY:Ann:={ jn:=[(3,(34,16,34))],lp:=[(6,⟨[3,6,7,8],[.s 3 0,.s 6 3],[6],[.s 6 3]⟩)],sh:=[.z 3,.n] }
def Qts:Ann:={ jn:=[(1,(19,8,19))],sh:=[.a [0,8,3,3,5,4,5,4,0],.n] }
def Qph:Ann:={ ot:=[(9,.one 1 (.one 2 (.one 3 (.one 8 (.one 9 (.one 10 (.alt (.one 0 (.alt (.one 4 (.one 5 (.one 6 (.one 7 (.one 11 (.one 12 (.done))))))) (.one 5 (.alt (.one 4 (.one 6 (.one 7 (.one 11 (.one 12 (.done)))))) (.one 6 (.one 4 (.one 7 (.one 11 (.one 12 (.done)))))))))) (.one 5 (.alt (.one 0 (.alt (.one 4 (.one 6 (.one 7 (.one 11 (.one 12 (.done)))))) (.one 6 (.one 4 (.one 7 (.one 11 (.one 12 (.done)))))))) (.one 6 (.one 0 (.one 4 (.one 7 (.one 11 (.one 12 (.done))))))))))))))))],jn:=[(6,(7,19,40)),(10,(67,62,67))],lp:=[(4,⟨[0,3,6,7,8],[.s 3 0],[0,3,6,7],[.s 3 0]⟩)],sh:=[.z 5,.n] }
def QqS:Ann:={ lp:=[(2,⟨[0,1,5],[],[],[]⟩)],rt:=⟨[4],[],[],[]⟩ }
def Qt1:Ann:={}
def QpG:Ann:={ jn:=[(5,(44,13,44))],lp:=[(3,⟨[0,1,5,6],[],[0,5],[]⟩)] }
def Qti:Ann:={ sh:=[.a [0,8,3,3,5,4,5,4,0],.n] }
def Qs8:Ann:={ jn:=[(3,(24,18,24)),(6,(11,31,49)),(8,(60,54,60))],sh:=[.z 5,.n] }
def QtX:Ann:={ sh:=[.a [0,8,3,3,5,4,5,4,0],.n] }
def Qs6:Ann:={ jn:=[(1,(12,5,12))] }
def QsU:Ann:={ jn:=[(1,(12,5,12))] }
def Qqf:Ann:={ jn:=[(6,(36,20,36)),(10,(42,43,53))],lp:=[(4,⟨[1,2,3,7],[.s 3 0],[2,3],[.s 3 0]⟩)],rt:=⟨[6],[],[],[]⟩ }
def QsY:Ann:={ sh:=[.z 2] }
def Qqu:Ann:={ jn:=[(4,(33,16,33))],lp:=[(2,⟨[0,1,2,9,10,11],[],[],[]⟩)],rt:=⟨[6],[],[],[]⟩ }
def QtY:Ann:={ jn:=[(1,(2,3,18))] }
def Qtv:Ann:={ jn:=[(1,(5,6,14)),(5,(21,22,35)),(9,(45,46,58))] }
def Qsw:Ann:={}
def Qo9:Ann:={ jn:=[(5,(44,13,44))],lp:=[(3,⟨[0,1,5,6],[],[0,5],[]⟩)] }
def QtF:Ann:={}
def Qp1:Ann:={ lp:=[(2,⟨[0,1,5],[],[],[]⟩)],rt:=⟨[4],[],[],[]⟩ }
def Qnl:Ann:={ jn:=[(4,(26,11,26))],lp:=[(2,⟨[0,3],[],[0],[]⟩),(7,⟨[0,3,4],[],[0,3],[]⟩)],rt:=⟨[2],[],[],[]⟩ }
def QnH:Ann:={ ot:=[(8,.one 1 (.one 2 (.one 3 (.one 5 (.one 6 (.one 11 (.one 12 (.one 13 (.alt (.one 0 (.alt (.one 4 (.one 7 (.one 8 (.one 9 (.one 10 (.one 14 (.one 15 (.done)))))))) (.one 7 (.alt (.one 4 (.one 8 (.one 9 (.one 10 (.one 14 (.one 15 (.done))))))) (.one 8 (.alt (.one 4 (.one 9 (.one 10 (.one 14 (.one 15 (.done)))))) (.one 9 (.one 4 (.one 10 (.one 14 (.one 15 (.done)))))))))))) (.one 7 (.alt (.one 0 (.alt (.one 4 (.one 8 (.one 9 (.one 10 (.one 14 (.one 15 (.done))))))) (.one 8 (.alt (.one 4 (.one 9 (.one 10 (.one 14 (.one 15 (.done)))))) (.one 9 (.one 4 (.one 10 (.one 14 (.one 15 (.done)))))))))) (.one 8 (.alt (.one 0 (.alt (.one 4 (.one 9 (.one 10 (.one 14 (.one 15 (.done)))))) (.one 9 (.one 4 (.one 10 (.one 14 (.one 15 (.done)))))))) (.one 9 (.one 0 (.one 4 (.one 10 (.one 14 (.one 15 (.done))))))))))))))))))))],fz:=[(8,[3])],jn:=[(6,(30,15,30))],lp:=[(3,⟨[0,3,4],[.s 3 3],[3],[.s 3 3]⟩),(6,⟨[0,3,4,5],[.s 3 3],[0,3,4,5],[.s 3 3]⟩)],sh:=[.z 3] }
def Qsg:Ann:={ jn:=[(1,(4,5,13))] }
def Ql0:Ann:={ jn:=[(9,(43,31,43))],lp:=[(4,⟨[0,1,5,6,7],[.s 5 1],[0,1,5,6],[.s 5 1]⟩),(13,⟨[0,1,5,6,8,9],[.s 5 1],[5,8],[.s 5 1]⟩),(18,⟨[5,8,10],[.s 5 1],[5],[.s 5 1]⟩)],rt:=⟨[4],[.s 4 1],[],[]⟩,sh:=[.z 1] }
def Qs0:Ann:={ jn:=[(1,(2,3,49))] }
def QsD:Ann:={ jn:=[(1,(19,7,19))] }
def Qso:Ann:={}
def QpX:Ann:={ jn:=[(4,(37,14,37))],lp:=[(2,⟨[0,1,2,7],[],[],[]⟩)],rt:=⟨[6],[],[],[]⟩ }
def QsG:Ann:={ jn:=[(1,(2,3,18))] }
def QsH:Ann:={ jn:=[(5,(10,11,17))] }
noncomputable def T:Tld:={ P:=Tryz.prog,ann:=[(4,An4),(5,An5),(8,An8),(20,Qwb),(21,Qxv),(22,QvJ),(23,Qy9),(24,Qyi),(25,Qyx),(26,QAs),(27,QzI),(28,QvT),(29,QAo),(30,Qxp),(31,QAB),(32,Qxo),(33,QzA),(34,QxV),(43,QBq),(44,QvM),(45,QvR),(46,Qvb),(47,Qvp),(48,Qwe),(49,QxW),(50,Qrk),(51,Qwn),(64,Qzu),(77,QAa),(78,QwF),(79,QyR),(80,QA8),(81,An81),(82,QAP),(83,QwB),(84,QvN),(85,Qz4),(86,QzF),(87,Qxf),(88,QxX),(89,QxG),(90,Qy0),(91,Qwm),(92,Qzg),(93,QzH),(94,QAC),(98,QAn),(102,QtJ),(103,QpK),(104,Qse),(105,Qpm),(106,Qqz),(107,QqB),(108,QpN),(109,Qqm),(110,Qs9),(111,Qtb),(112,Qsi),(138,Qp6),(139,QsP),(149,Qsp),(150,Qsh),(151,Qtp),(152,Qt3),(153,QtZ),(154,QsK),(155,QsE),(156,Qtr),(157,Qty),(158,Qq2),(159,Qng),(160,Qs5),(161,QtQ),(162,QqJ),(163,Qs3),(164,QpJ),(165,Qt5),(166,Qsz),(167,Qqd),(168,QsT),(169,QqP),(170,Qth),(171,Qpb),(172,Qpi),(173,Qt2),(174,Qo5),(175,QpB),(176,QsW),(177,Qpd),(207,Qqh),(208,QtP),(209,QqQ),(210,Qta),(211,QsJ),(212,Qtd),(213,QsV),(214,QtI),(215,Qqe),(216,Qsn),(217,QtD),(218,QsZ),(219,Qsv),(220,QsL),(221,Qqr),(222,QtU),(223,QnE),(225,QtN),(226,Qst),(227,QsX),(228,QsQ),(251,Qps),(252,Qpv),(253,QoY),(254,Qts),(255,Qph),(256,QqS),(257,Qt1),(258,QpG),(259,Qti),(260,Qs8),(261,QtX),(262,Qs6),(263,QsU),(264,Qqf),(265,QsY),(266,Qqu),(267,QtY),(268,Qtv),(270,Qsw),(278,Qo9),(279,QtF),(280,Qp1),(281,Qnl),(282,QnH),(283,Qsg),(284,Ql0),(285,Qs0),(291,QsD),(292,Qso),(293,QpX),(294,QsG),(296,QsH)],xt:=xt,st:=fun g=>Nat.beq g 66,qt:=fun g=>Nat.beq g 224,pz:=[(150,[.a [0,8,3,3,5,4,5,4,0]])],vt:=fun g=>Nat.beq g 254||Nat.beq g 261,mt:=fun _ _ _=>none }
theorem TP:T.P=Tryz.prog:=_root_.id rfl
theorem TZ:T.pz=[(150,[.a [0,8,3,3,5,4,5,4,0]])]:=_root_.id rfl
theorem QPl:decide ((0:Int)≤33)=true:=_root_.id rfl
theorem QPy:decide ((0:Int)≤47)=true:=_root_.id rfl
def eY:=aI evT<|aI QOf<|aI @QRg<|aI @Qlb<|@VA
def eZ:=aI evB<|aI evT<|aI tys<|aI QOf<|aI TP<|aI TZ<|aI (@QHW T)<|aI (@QHx T)<|aI (@QKv T)<|aI QPl<|aI QPy<|aI @VA<|@QLt T
theorem Qi4(n:Nat)(x:Int):CP T (n+1) 269 [.nil,.i .i64 x]=(Zi x).map fun r=>.own 1 (r.map Qj):=by rw[QQK T n 269 _ (by kernel_rfl)];rfl
theorem QQQ:cI=Qj:=_root_.id rfl
theorem QGf(xs:List Int):Qcw (xs.map Qj)=some xs:=QrT xs
theorem QIJ:T.st 66=true:=by kernel_rfl
theorem QEL:T.st 224=false:=by kernel_rfl
theorem QDz:T.qt 224=true:=by kernel_rfl
theorem QJa:T.st 20=false:=by kernel_rfl
theorem QK9:T.qt 20=false:=by kernel_rfl
theorem QIc:T.wt 20=true:=by kernel_rfl
theorem QIE:T.vt 20=false:=by kernel_rfl
theorem QIU:T.st 27=false:=by kernel_rfl
theorem QGO:T.qt 27=false:=by kernel_rfl
theorem QND:T.wt 27=true:=by kernel_rfl
theorem QH2:T.vt 27=false:=by kernel_rfl
theorem QJK:T.st 30=false:=by kernel_rfl
theorem QKL:T.qt 30=false:=by kernel_rfl
theorem QLI:T.wt 30=true:=by kernel_rfl
theorem QL7:T.vt 30=false:=by kernel_rfl
theorem QNe:T.st 31=false:=by kernel_rfl
theorem QIn:T.qt 31=false:=by kernel_rfl
theorem QHP:T.wt 31=true:=by kernel_rfl
theorem QNa:T.vt 31=false:=by kernel_rfl
theorem QMj:T.st 32=false:=by kernel_rfl
theorem QIM:T.qt 32=false:=by kernel_rfl
theorem QMy:T.wt 32=true:=by kernel_rfl
theorem QLp:T.vt 32=false:=by kernel_rfl
theorem QNW:T.st 77=false:=by kernel_rfl
theorem QOa:T.qt 77=false:=by kernel_rfl
theorem QIS:T.wt 77=true:=by kernel_rfl
theorem QGG:T.vt 77=false:=by kernel_rfl
theorem QOe:T.st 79=false:=by kernel_rfl
theorem QLC:T.qt 79=false:=by kernel_rfl
theorem QKq:T.wt 79=true:=by kernel_rfl
theorem QHD:T.vt 79=false:=by kernel_rfl
theorem QIz:T.st 80=false:=by kernel_rfl
theorem QNP:T.qt 80=false:=by kernel_rfl
theorem QKu:T.wt 80=true:=by kernel_rfl
theorem QNj:T.vt 80=false:=by kernel_rfl
theorem QJS:T.st 81=false:=by kernel_rfl
theorem QKP:T.qt 81=false:=by kernel_rfl
theorem QJ5:T.wt 81=true:=by kernel_rfl
theorem QGU:T.vt 81=false:=by kernel_rfl
theorem QI9:T.st 85=false:=by kernel_rfl
theorem QLw:T.qt 85=false:=by kernel_rfl
theorem QKo:T.wt 85=true:=by kernel_rfl
theorem QMl:T.vt 85=false:=by kernel_rfl
theorem QLJ:T.st 86=false:=by kernel_rfl
theorem QLD:T.qt 86=false:=by kernel_rfl
theorem QJI:T.wt 86=true:=by kernel_rfl
theorem QNo:T.vt 86=false:=by kernel_rfl
theorem QIF:T.st 91=false:=by kernel_rfl
theorem QNf:T.qt 91=false:=by kernel_rfl
theorem QIi:T.wt 91=true:=by kernel_rfl
theorem QHK:T.vt 91=false:=by kernel_rfl
theorem QGB:T.st 92=false:=by kernel_rfl
theorem QGP:T.qt 92=false:=by kernel_rfl
theorem QNv:T.wt 92=true:=by kernel_rfl
theorem QK7:T.vt 92=false:=by kernel_rfl
theorem QL6:T.st 93=false:=by kernel_rfl
theorem QIP:T.qt 93=false:=by kernel_rfl
theorem QKt:T.wt 93=true:=by kernel_rfl
theorem QMH:T.vt 93=false:=by kernel_rfl
theorem QFf:T.st 149=false:=by kernel_rfl
theorem QEb:T.qt 149=false:=by kernel_rfl
theorem QFX:T.wt 149=true:=by kernel_rfl
theorem QFo:T.vt 149=false:=by kernel_rfl
theorem QEZ:T.st 152=false:=by kernel_rfl
theorem QEn:T.qt 152=false:=by kernel_rfl
theorem QFq:T.wt 152=true:=by kernel_rfl
theorem QCP:T.vt 152=false:=by kernel_rfl
theorem QDO:T.st 153=false:=by kernel_rfl
theorem QFT:T.qt 153=false:=by kernel_rfl
theorem QDq:T.wt 153=true:=by kernel_rfl
theorem QE0:T.vt 153=false:=by kernel_rfl
theorem QDH:T.st 154=false:=by kernel_rfl
theorem QFI:T.qt 154=false:=by kernel_rfl
theorem QD0:T.wt 154=true:=by kernel_rfl
theorem QDg:T.vt 154=false:=by kernel_rfl
theorem QEv:T.st 155=false:=by kernel_rfl
theorem QFv:T.qt 155=false:=by kernel_rfl
theorem QD9:T.wt 155=true:=by kernel_rfl
theorem QCN:T.vt 155=false:=by kernel_rfl
theorem QCQ:T.st 168=false:=by kernel_rfl
theorem QEF:T.qt 168=false:=by kernel_rfl
theorem QDj:T.wt 168=true:=by kernel_rfl
theorem QEl:T.vt 168=false:=by kernel_rfl
theorem QFp:T.st 169=false:=by kernel_rfl
theorem QEc:T.qt 169=false:=by kernel_rfl
theorem QEM:T.wt 169=true:=by kernel_rfl
theorem QDN:T.vt 169=false:=by kernel_rfl
theorem QDP:T.st 215=false:=by kernel_rfl
theorem QD7:T.qt 215=false:=by kernel_rfl
theorem QEw:T.wt 215=true:=by kernel_rfl
theorem QDx:T.vt 215=false:=by kernel_rfl
theorem QFL:T.st 216=false:=by kernel_rfl
theorem QF8:T.qt 216=false:=by kernel_rfl
theorem QEq:T.wt 216=true:=by kernel_rfl
theorem QGa:T.vt 216=false:=by kernel_rfl
theorem QCZ:T.st 225=false:=by kernel_rfl
theorem QFl:T.qt 225=false:=by kernel_rfl
theorem QCX:T.wt 225=true:=by kernel_rfl
theorem QD6:T.vt 225=false:=by kernel_rfl
theorem QE3:T.st 254=false:=by kernel_rfl
theorem QEi:T.qt 254=false:=by kernel_rfl
theorem QGo:T.wt 254=false:=by kernel_rfl
theorem QFh:T.vt 254=true:=by kernel_rfl
theorem QFY:T.st 261=false:=by kernel_rfl
theorem QCS:T.qt 261=false:=by kernel_rfl
theorem QFi:T.wt 261=false:=by kernel_rfl
theorem QD8:T.vt 261=true:=by kernel_rfl
def srt:=aI @QQQ<|aI @QGf<|aI @QJz<|aI @QIH<|aI @QKs<|aI @QIk<|aI @QIJ<|aI @QEL<|aI @QDz<|aI @QJa<|aI @QK9<|aI @QIc<|aI @QIE<|aI @QIU<|aI @QGO<|aI @QND<|aI @QH2<|aI @QJK<|aI @QKL<|aI @QLI<|aI @QL7<|aI @QNe<|aI @QIn<|aI @QHP<|aI @QNa<|aI @QMj<|aI @QIM<|aI @QMy<|aI @QLp<|aI @QNW<|aI @QOa<|aI @QIS<|aI @QGG<|aI @QOe<|aI @QLC<|aI @QKq<|aI @QHD<|aI @QIz<|aI @QNP<|aI @QKu<|aI @QNj<|aI @QJS<|aI @QKP<|aI @QJ5<|aI @QGU<|aI @QI9<|aI @QLw<|aI @QKo<|aI @QMl<|aI @QLJ<|aI @QLD<|aI @QJI<|aI @QNo<|aI @QIF<|aI @QNf<|aI @QIi<|aI @QHK<|aI @QGB<|aI @QGP<|aI @QNv<|aI @QK7<|aI @QL6<|aI @QIP<|aI @QKt<|aI @QMH<|aI @QFf<|aI @QEb<|aI @QFX<|aI @QFo<|aI @QEZ<|aI @QEn<|aI @QFq<|aI @QCP<|aI @QDO<|aI @QFT<|aI @QDq<|aI @QE0<|aI @QDH<|aI @QFI<|aI @QD0<|aI @QDg<|aI @QEv<|aI @QFv<|aI @QD9<|aI @QCN<|aI @QCQ<|aI @QEF<|aI @QDj<|aI @QEl<|aI @QFp<|aI @QEc<|aI @QEM<|aI @QDN<|aI @QDP<|aI @QD7<|aI @QEw<|aI @QDx<|aI @QFL<|aI @QF8<|aI @QEq<|aI @QGa<|aI @QCZ<|aI @QFl<|aI @QCX<|aI @QD6<|aI @QE3<|aI @QEi<|aI @QGo<|aI @QFh<|aI @QFY<|aI @QCS<|aI @QFi @QD8
theorem Aa4:T.at 4=some An4:=by kernel_rfl
theorem Aa5:T.at 5=some An5:=by kernel_rfl
theorem Aa8:T.at 8=some An8:=by kernel_rfl
theorem QG6:T.at 20=some Qwb:=by kernel_rfl
theorem QIK:T.at 21=some Qxv:=by kernel_rfl
theorem QIX:T.at 22=some QvJ:=by kernel_rfl
theorem QSB:T.at 23=some Qy9:=by kernel_rfl
theorem QLK:T.at 24=some Qyi:=by kernel_rfl
theorem QHG:T.at 25=some Qyx:=by kernel_rfl
theorem QQu:T.at 26=some QAs:=by kernel_rfl
theorem QSw:T.at 27=some QzI:=by kernel_rfl
theorem QJ2:T.at 28=some QvT:=by kernel_rfl
theorem QOH:T.at 29=some QAo:=by kernel_rfl
theorem QHc:T.at 30=some Qxp:=by kernel_rfl
theorem QQi:T.at 31=some QAB:=by kernel_rfl
theorem QHq:T.at 32=some Qxo:=by kernel_rfl
theorem QPu:T.at 33=some QzA:=by kernel_rfl
theorem QIW:T.at 34=some QxV:=by kernel_rfl
theorem QQT:T.at 43=some QBq:=by kernel_rfl
theorem QJx:T.at 44=some QvM:=by kernel_rfl
theorem QLT:T.at 45=some QvR:=by kernel_rfl
theorem QFS:T.at 46=some Qvb:=by kernel_rfl
theorem QFw:T.at 47=some Qvp:=by kernel_rfl
theorem QL3:T.at 48=some Qwe:=by kernel_rfl
theorem QLA:T.at 49=some QxW:=by kernel_rfl
theorem QBy:T.at 50=some Qrk:=by kernel_rfl
theorem QMk:T.at 51=some Qwn:=by kernel_rfl
theorem QSz:T.at 64=some Qzu:=by kernel_rfl
theorem QPx:T.at 77=some QAa:=by kernel_rfl
theorem QI8:T.at 78=some QwF:=by kernel_rfl
theorem QRC:T.at 79=some QyR:=by kernel_rfl
theorem QPC:T.at 80=some QA8:=by kernel_rfl
theorem Qoh:T.at 81=some An81:=by kernel_rfl
theorem QRD:T.at 82=some QAP:=by kernel_rfl
theorem QK8:T.at 83=some QwB:=by kernel_rfl
theorem QLh:T.at 84=some QvN:=by kernel_rfl
theorem QPB:T.at 85=some Qz4:=by kernel_rfl
theorem QRM:T.at 86=some QzF:=by kernel_rfl
theorem QLR:T.at 87=some Qxf:=by kernel_rfl
theorem QHQ:T.at 88=some QxX:=by kernel_rfl
theorem QG1:T.at 89=some QxG:=by kernel_rfl
theorem QPO:T.at 90=some Qy0:=by kernel_rfl
theorem QIu:T.at 91=some Qwm:=by kernel_rfl
theorem QPs:T.at 92=some Qzg:=by kernel_rfl
theorem QOS:T.at 93=some QzH:=by kernel_rfl
theorem QR9:T.at 94=some QAC:=by kernel_rfl
theorem QR7:T.at 98=some QAn:=by kernel_rfl
theorem QIG:T.at 102=some QtJ:=by kernel_rfl
theorem QCE:T.at 103=some QpK:=by kernel_rfl
theorem QHl:T.at 104=some Qse:=by kernel_rfl
theorem QCa:T.at 105=some Qpm:=by kernel_rfl
theorem QCe:T.at 106=some Qqz:=by kernel_rfl
theorem QCn:T.at 107=some QqB:=by kernel_rfl
theorem QCw:T.at 108=some QpN:=by kernel_rfl
theorem QBN:T.at 109=some Qqm:=by kernel_rfl
theorem QHu:T.at 110=some Qs9:=by kernel_rfl
theorem QHT:T.at 111=some Qtb:=by kernel_rfl
theorem QKp:T.at 112=some Qsi:=by kernel_rfl
theorem QB8:T.at 138=some Qp6:=by kernel_rfl
theorem QNx:T.at 139=some QsP:=by kernel_rfl
theorem QGy:T.at 149=some Qsp:=by kernel_rfl
theorem QOb:T.at 150=some Qsh:=by kernel_rfl
theorem QLU:T.at 151=some Qtp:=by kernel_rfl
theorem QHH:T.at 152=some Qt3:=by kernel_rfl
theorem QHV:T.at 153=some QtZ:=by kernel_rfl
theorem QJu:T.at 154=some QsK:=by kernel_rfl
theorem QJN:T.at 155=some QsE:=by kernel_rfl
theorem QHm:T.at 156=some Qtr:=by kernel_rfl
theorem QJQ:T.at 157=some Qty:=by kernel_rfl
theorem QCo:T.at 158=some Qq2:=by kernel_rfl
theorem Qxh:T.at 159=some Qng:=by kernel_rfl
theorem QLP:T.at 160=some Qs5:=by kernel_rfl
theorem QIC:T.at 161=some QtQ:=by kernel_rfl
theorem QB9:T.at 162=some QqJ:=by kernel_rfl
theorem QJf:T.at 163=some Qs3:=by kernel_rfl
theorem QBF:T.at 164=some QpJ:=by kernel_rfl
theorem QK3:T.at 165=some Qt5:=by kernel_rfl
theorem QJL:T.at 166=some Qsz:=by kernel_rfl
theorem QBX:T.at 167=some Qqd:=by kernel_rfl
theorem QKQ:T.at 168=some QsT:=by kernel_rfl
theorem QCp:T.at 169=some QqP:=by kernel_rfl
theorem QNA:T.at 170=some Qth:=by kernel_rfl
theorem QCI:T.at 171=some Qpb:=by kernel_rfl
theorem QCb:T.at 172=some Qpi:=by kernel_rfl
theorem QJF:T.at 173=some Qt2:=by kernel_rfl
theorem QCJ:T.at 174=some Qo5:=by kernel_rfl
theorem QCk:T.at 175=some QpB:=by kernel_rfl
theorem QLY:T.at 176=some QsW:=by kernel_rfl
theorem QBC:T.at 177=some Qpd:=by kernel_rfl
theorem QBV:T.at 207=some Qqh:=by kernel_rfl
theorem QM1:T.at 208=some QtP:=by kernel_rfl
theorem QBK:T.at 209=some QqQ:=by kernel_rfl
theorem QNc:T.at 210=some Qta:=by kernel_rfl
theorem QNB:T.at 211=some QsJ:=by kernel_rfl
theorem QGZ:T.at 212=some Qtd:=by kernel_rfl
theorem QKB:T.at 213=some QsV:=by kernel_rfl
theorem QLH:T.at 214=some QtI:=by kernel_rfl
theorem QCG:T.at 215=some Qqe:=by kernel_rfl
theorem QI3:T.at 216=some Qsn:=by kernel_rfl
theorem QKC:T.at 217=some QtD:=by kernel_rfl
theorem QLb:T.at 218=some QsZ:=by kernel_rfl
theorem QJl:T.at 219=some Qsv:=by kernel_rfl
theorem QHz:T.at 220=some QsL:=by kernel_rfl
theorem QBH:T.at 221=some Qqr:=by kernel_rfl
theorem QH9:T.at 222=some QtU:=by kernel_rfl
theorem QvB:T.at 223=some QnE:=by kernel_rfl
theorem QIR:T.at 225=some QtN:=by kernel_rfl
theorem QHN:T.at 226=some Qst:=by kernel_rfl
theorem QIl:T.at 227=some QsX:=by kernel_rfl
theorem QN7:T.at 228=some QsQ:=by kernel_rfl
theorem QB3:T.at 251=some Qps:=by kernel_rfl
theorem QBJ:T.at 252=some Qpv:=by kernel_rfl
theorem QCf:T.at 253=some QoY:=by kernel_rfl
theorem QLz:T.at 254=some Qts:=by kernel_rfl
theorem QCc:T.at 255=some Qph:=by kernel_rfl
theorem QCC:T.at 256=some QqS:=by kernel_rfl
theorem QJt:T.at 257=some Qt1:=by kernel_rfl
theorem QCm:T.at 258=some QpG:=by kernel_rfl
theorem QHI:T.at 259=some Qti:=by kernel_rfl
theorem QGT:T.at 260=some Qs8:=by kernel_rfl
theorem QJ4:T.at 261=some QtX:=by kernel_rfl
theorem QNS:T.at 262=some Qs6:=by kernel_rfl
theorem QNI:T.at 263=some QsU:=by kernel_rfl
theorem QCy:T.at 264=some Qqf:=by kernel_rfl
theorem QG7:T.at 265=some QsY:=by kernel_rfl
theorem QBG:T.at 266=some Qqu:=by kernel_rfl
theorem QKd:T.at 267=some QtY:=by kernel_rfl
theorem QIb:T.at 268=some Qtv:=by kernel_rfl
theorem QLl:T.at 270=some Qsw:=by kernel_rfl
theorem QCj:T.at 278=some Qo9:=by kernel_rfl
theorem QLi:T.at 279=some QtF:=by kernel_rfl
theorem QBE:T.at 280=some Qp1:=by kernel_rfl
theorem Qv5:T.at 281=some Qnl:=by kernel_rfl
theorem Qvz:T.at 282=some QnH:=by kernel_rfl
theorem QKm:T.at 283=some Qsg:=by kernel_rfl
theorem QsN:T.at 284=some Ql0:=by kernel_rfl
theorem QKg:T.at 285=some Qs0:=by kernel_rfl
theorem QMm:T.at 291=some QsD:=by kernel_rfl
theorem QG4:T.at 292=some Qso:=by kernel_rfl
theorem QCt:T.at 293=some QpX:=by kernel_rfl
theorem QJ6:T.at 294=some QsG:=by kernel_rfl
theorem QNy:T.at 296=some QsH:=by kernel_rfl
end Go.Proofs.YtonidbheohhgdaaGreat
