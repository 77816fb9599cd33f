import Derived.Test.YtonidbheohhgdaaGreatEvB
import Derived.Test.YtonidbheohhgdaaGreatFn
import Derived.Test.YtonidbheohhgdaaGreatProg
import Derived.KernelRfl
namespace Go.Proofs.YtonidbheohhgdaaGreat
open Go Go.Proofs Go.Proofs.YtonidbheohhgdaaGreat.Am
set_option maxHeartbeats 4000000
set_option linter.unusedVariables false
set_option linter.unusedSimpArgs false
set_option linter.defProp false
set_option maxRecDepth 100000
def Qi(x:Int):List AV:=[.i .i64 x]
theorem Qoc(x:Int):Qi x=[.i .i64 x]:=_root_.id rfl
instance(x:Int):EncR Qi [.i .i64 x] x:=⟨rfl⟩
theorem QvQ(xs:List Int):Qh (xs.map Qi)=xs.map Qi:=ZK (fun x=>by simp only[Qoc,Q5,Vo]) xs
theorem Qvu(xs:List Int):Qz (xs.map Qi)=true:=Jb (fun x=>by simp only[Qoc,Vt,AV.clean,Bool.and_self]) xs
theorem QEz{R:List (List AV)}{xs:List Int}(i:Int)[h:EncL Qi R xs]:inb R i=inb xs i:=by rw[h.eq,Qnf]
theorem QFX{R:List (List AV)}{xs:List Int}(i:Int)[h:EncL Qi R xs](hi:inb xs i=true):QB R i.toNat=Qi (gt xs i):=by rw[h.eq,Qnk xs i hi]
def QbK(x:Int):List AV:=[.i .u8 x]
theorem Qq7(x:Int):QbK x=[.i .u8 x]:=_root_.id rfl
instance(x:Int):EncR QbK [.i .u8 x] x:=⟨rfl⟩
theorem QCJ(xs:List Int):Qh (xs.map QbK)=xs.map QbK:=ZK (fun x=>by simp only[Qq7,Q5,Vo]) xs
theorem QB6(xs:List Int):Qz (xs.map QbK)=true:=Jb (fun x=>by simp only[Qq7,Vt,AV.clean,Bool.and_self]) xs
theorem QJE{R:List (List AV)}{xs:List Int}(i:Int)[h:EncL QbK R xs]:inb R i=inb xs i:=by rw[h.eq,Qnf]
theorem QHV{R:List (List AV)}{xs:List Int}(i:Int)[h:EncL QbK R xs](hi:inb xs i=true):QB R i.toNat=QbK (gt xs i):=by rw[h.eq,Qnk xs i hi]
def c_b(x:Bool):List AV:=[.b x]
theorem QyA(x:Bool):c_b x=[.b x]:=_root_.id rfl
instance(x:Bool):EncR c_b [.b x] x:=⟨rfl⟩
theorem QQe(xs:List Bool):Qh (xs.map c_b)=xs.map c_b:=ZK (fun x=>by simp only[QyA,Q5,Vo]) xs
theorem QOM(xs:List Bool):Qz (xs.map c_b)=true:=Jb (fun x=>by simp only[QyA,Vt,AV.clean,Bool.and_self]) xs
theorem QRv{R:List (List AV)}{xs:List Bool}(i:Int)[h:EncL c_b R xs]:inb R i=inb xs i:=by rw[h.eq,Qnf]
theorem QQB{R:List (List AV)}{xs:List Bool}(i:Int)[h:EncL c_b R xs](hi:inb xs i=true):QB R i.toNat=c_b (gt xs i):=by rw[h.eq,Qnk xs i hi]
def c_s(x:List UInt8):List AV:=[.s x]
theorem QwJ(x:List UInt8):c_s x=[.s x]:=_root_.id rfl
instance(x:List UInt8):EncR c_s [.s x] x:=⟨rfl⟩
theorem QRl(xs:List (List UInt8)):Qh (xs.map c_s)=xs.map c_s:=ZK (fun x=>by simp only[QwJ,Q5,Vo]) xs
theorem QSx(xs:List (List UInt8)):Qz (xs.map c_s)=true:=Jb (fun x=>by simp only[QwJ,Vt,AV.clean,Bool.and_self]) xs
theorem QPd{R:List (List AV)}{xs:List (List UInt8)}(i:Int)[h:EncL c_s R xs]:inb R i=inb xs i:=by rw[h.eq,Qnf]
theorem QQc{R:List (List AV)}{xs:List (List UInt8)}(i:Int)[h:EncL c_s R xs](hi:inb xs i=true):QB R i.toNat=c_s (gt xs i):=by rw[h.eq,Qnk xs i hi]
def Qw(x:l1Cur):List AV:=[.imm 1 (x.b.map QbK),.i .i64 x.i,.i .i64 x.h]
theorem Qqg(x:l1Cur):Qw x=[.imm 1 (x.b.map QbK),.i .i64 x.i,.i .i64 x.h]:=_root_.id rfl
instance(yxi yxh){R1 yxb}[H1:EncL QbK R1 yxb]:EncR Qw [.imm 1 R1,.i .i64 yxi,.i .i64 yxh] (⟨yxb,yxi,yxh⟩:l1Cur):=⟨by obtain⟨rfl⟩:=H1;rfl⟩
def QkX(x:l1Cur):List AV:=[.own 1 (x.b.map QbK),.i .i64 x.i,.i .i64 x.h]
theorem Qj3(x:l1Cur):QkX x=[.own 1 (x.b.map QbK),.i .i64 x.i,.i .i64 x.h]:=_root_.id rfl
instance(yxi yxh){R1 yxb}[H1:EncL QbK R1 yxb]:EncR QkX [.own 1 R1,.i .i64 yxi,.i .i64 yxh] (⟨yxb,yxi,yxh⟩:l1Cur):=⟨by obtain⟨rfl⟩:=H1;rfl⟩
theorem Qyt(xs:List l1Cur):Qh (xs.map QkX)=xs.map Qw:=ZK (fun x=>by simp only[Qj3,Qqg,Q5,Vo,QCJ]) xs
theorem Qys(xs:List l1Cur):Qz (xs.map QkX)=true:=Jb (fun x=>by simp only[Qj3,Vt,AV.clean,Bool.and_self,QB6]) xs
theorem Qyu(x:l1Cur):(⟨x.b,x.i,x.h⟩:l1Cur)=x:=_root_.id rfl
def Qcj(x:Hit):List AV:=[.i .i64 x.House,.i .i64 x.Thing]
theorem Qr5(x:Hit):Qcj x=[.i .i64 x.House,.i .i64 x.Thing]:=_root_.id rfl
instance(yxHouse yxThing)  : EncR Qcj [.i .i64 yxHouse,.i .i64 yxThing] (⟨yxHouse,yxThing⟩:Hit):=⟨by rfl⟩
theorem QET(xs:List Hit):Qh (xs.map Qcj)=xs.map Qcj:=ZK (fun x=>by simp only[Qr5,Q5,Vo]) xs
theorem QEc(xs:List Hit):Qz (xs.map Qcj)=true:=Jb (fun x=>by simp only[Qr5,Vt,AV.clean,Bool.and_self]) xs
theorem QGq(x:Hit):(⟨x.House,x.Thing⟩:Hit)=x:=_root_.id rfl
def VM(x:Slot):List AV:=[.i .i64 x.Id,.i .i64 x.Size,.i .i64 x.Thing]
theorem Qoi(x:Slot):VM x=[.i .i64 x.Id,.i .i64 x.Size,.i .i64 x.Thing]:=_root_.id rfl
instance(yxId yxSize yxThing)  : EncR VM [.i .i64 yxId,.i .i64 yxSize,.i .i64 yxThing] (⟨yxId,yxSize,yxThing⟩:Slot):=⟨by rfl⟩
theorem Qs1(xs:List Slot):Qh (xs.map VM)=xs.map VM:=ZK (fun x=>by simp only[Qoi,Q5,Vo]) xs
theorem Qsq(xs:List Slot):Qz (xs.map VM)=true:=Jb (fun x=>by simp only[Qoi,Vt,AV.clean,Bool.and_self]) xs
theorem QBj(x:Slot):(⟨x.Id,x.Size,x.Thing⟩:Slot)=x:=_root_.id rfl
def J8(x:Mark):List AV:=[.i .i64 x.Question,.i .i64 x.Answer]
theorem QnM(x:Mark):J8 x=[.i .i64 x.Question,.i .i64 x.Answer]:=_root_.id rfl
instance(yxQuestion yxAnswer)  : EncR J8 [.i .i64 yxQuestion,.i .i64 yxAnswer] (⟨yxQuestion,yxAnswer⟩:Mark):=⟨by rfl⟩
theorem Qob(xs:List Mark):Qh (xs.map J8)=xs.map J8:=ZK (fun x=>by simp only[QnM,Q5,Vo]) xs
theorem QoF(xs:List Mark):Qz (xs.map J8)=true:=Jb (fun x=>by simp only[QnM,Vt,AV.clean,Bool.and_self]) xs
theorem QAC(x:Mark):(⟨x.Question,x.Answer⟩:Mark)=x:=_root_.id rfl
def Jl(x:Secret):List AV:=[.i .i64 x.Thing,.imm 2 (x.Marks.map J8),.i .i64 x.Salt]
theorem Qnh(x:Secret):Jl x=[.i .i64 x.Thing,.imm 2 (x.Marks.map J8),.i .i64 x.Salt]:=_root_.id rfl
instance(yxThing yxSalt){R1 yxMarks}[H1:EncL J8 R1 yxMarks]:EncR Jl [.i .i64 yxThing,.imm 2 R1,.i .i64 yxSalt] (⟨yxThing,yxMarks,yxSalt⟩:Secret):=⟨by obtain⟨rfl⟩:=H1;rfl⟩
def Xl(x:Secret):List AV:=[.i .i64 x.Thing,.own 2 (x.Marks.map J8),.i .i64 x.Salt]
theorem QhZ(x:Secret):Xl x=[.i .i64 x.Thing,.own 2 (x.Marks.map J8),.i .i64 x.Salt]:=_root_.id rfl
instance(yxThing yxSalt){R1 yxMarks}[H1:EncL J8 R1 yxMarks]:EncR Xl [.i .i64 yxThing,.own 2 R1,.i .i64 yxSalt] (⟨yxThing,yxMarks,yxSalt⟩:Secret):=⟨by obtain⟨rfl⟩:=H1;rfl⟩
theorem Qm7(xs:List Secret):Qh (xs.map Xl)=xs.map Jl:=ZK (fun x=>by simp only[QhZ,Qnh,Q5,Vo,Qob]) xs
theorem Qnr(xs:List Secret):Qz (xs.map Xl)=true:=Jb (fun x=>by simp only[QhZ,Vt,AV.clean,Bool.and_self,QoF]) xs
theorem QuD(x:Secret):(⟨x.Thing,x.Marks,x.Salt⟩:Secret)=x:=_root_.id rfl
def Qc3(x:Thing):List AV:=[.i .i64 x.Id,.i .i64 x.Kind,.i .i64 x.Colour,.i .i64 x.Size,.i .i64 x.Worth]
theorem Ql9(x:Thing):Qc3 x=[.i .i64 x.Id,.i .i64 x.Kind,.i .i64 x.Colour,.i .i64 x.Size,.i .i64 x.Worth]:=_root_.id rfl
instance(yxId yxKind yxColour yxSize yxWorth)  : EncR Qc3 [.i .i64 yxId,.i .i64 yxKind,.i .i64 yxColour,.i .i64 yxSize,.i .i64 yxWorth] (⟨yxId,yxKind,yxColour,yxSize,yxWorth⟩:Thing):=⟨by rfl⟩
theorem Qxb(xs:List Thing):Qh (xs.map Qc3)=xs.map Qc3:=ZK (fun x=>by simp only[Ql9,Q5,Vo]) xs
theorem QwQ(xs:List Thing):Qz (xs.map Qc3)=true:=Jb (fun x=>by simp only[Ql9,Vt,AV.clean,Bool.and_self]) xs
theorem Qwg(x:Thing):(⟨x.Id,x.Kind,x.Colour,x.Size,x.Worth⟩:Thing)=x:=_root_.id rfl
def QX(x:Find):List AV:=[.i .i64 x.Thing.Id,.i .i64 x.Thing.Kind,.i .i64 x.Thing.Colour,.i .i64 x.Thing.Size,.i .i64 x.Thing.Worth,.i .i64 x.Place,.i .i64 x.At,.i .i64 x.Finder]
theorem QoE(x:Find):QX x=[.i .i64 x.Thing.Id,.i .i64 x.Thing.Kind,.i .i64 x.Thing.Colour,.i .i64 x.Thing.Size,.i .i64 x.Thing.Worth,.i .i64 x.Place,.i .i64 x.At,.i .i64 x.Finder]:=_root_.id rfl
instance(yxThingxId yxThingxKind yxThingxColour yxThingxSize yxThingxWorth yxPlace yxAt yxFinder)  : EncR QX [.i .i64 yxThingxId,.i .i64 yxThingxKind,.i .i64 yxThingxColour,.i .i64 yxThingxSize,.i .i64 yxThingxWorth,.i .i64 yxPlace,.i .i64 yxAt,.i .i64 yxFinder] (⟨⟨yxThingxId,yxThingxKind,yxThingxColour,yxThingxSize,yxThingxWorth⟩,yxPlace,yxAt,yxFinder⟩:Find):=⟨by rfl⟩
theorem Qtq(xs:List Find):Qh (xs.map QX)=xs.map QX:=ZK (fun x=>by simp only[QoE,Q5,Vo]) xs
theorem QtD(xs:List Find):Qz (xs.map QX)=true:=Jb (fun x=>by simp only[QoE,Vt,AV.clean,Bool.and_self]) xs
theorem Qz4(x:Find):(⟨x.Thing,x.Place,x.At,x.Finder⟩:Find)=x:=_root_.id rfl
def Vk(x:Claim):List AV:=[.i .i64 x.Id,.i .i64 x.Who,.i .i64 x.Thing,.i .i64 x.At,.i .i64 x.State]
theorem Qlc(x:Claim):Vk x=[.i .i64 x.Id,.i .i64 x.Who,.i .i64 x.Thing,.i .i64 x.At,.i .i64 x.State]:=_root_.id rfl
instance(yxId yxWho yxThing yxAt yxState)  : EncR Vk [.i .i64 yxId,.i .i64 yxWho,.i .i64 yxThing,.i .i64 yxAt,.i .i64 yxState] (⟨yxId,yxWho,yxThing,yxAt,yxState⟩:Claim):=⟨by rfl⟩
theorem Qps(xs:List Claim):Qh (xs.map Vk)=xs.map Vk:=ZK (fun x=>by simp only[Qlc,Q5,Vo]) xs
theorem Qpw(xs:List Claim):Qz (xs.map Vk)=true:=Jb (fun x=>by simp only[Qlc,Vt,AV.clean,Bool.and_self]) xs
theorem Qwf(x:Claim):(⟨x.Id,x.Who,x.Thing,x.At,x.State⟩:Claim)=x:=_root_.id rfl
def Jy(x:Trial):List AV:=[.i .i64 x.Claim,.i .i64 x.Asked,.i .i64 x.Right,.i .i64 x.Wrong]
theorem Ql5(x:Trial):Jy x=[.i .i64 x.Claim,.i .i64 x.Asked,.i .i64 x.Right,.i .i64 x.Wrong]:=_root_.id rfl
instance(yxClaim yxAsked yxRight yxWrong)  : EncR Jy [.i .i64 yxClaim,.i .i64 yxAsked,.i .i64 yxRight,.i .i64 yxWrong] (⟨yxClaim,yxAsked,yxRight,yxWrong⟩:Trial):=⟨by rfl⟩
theorem QoX(xs:List Trial):Qh (xs.map Jy)=xs.map Jy:=ZK (fun x=>by simp only[Ql5,Q5,Vo]) xs
theorem QqU(xs:List Trial):Qz (xs.map Jy)=true:=Jb (fun x=>by simp only[Ql5,Vt,AV.clean,Bool.and_self]) xs
theorem Qyd(x:Trial):(⟨x.Claim,x.Asked,x.Right,x.Wrong⟩:Trial)=x:=_root_.id rfl
def Zc(x:Hand):List AV:=[.i .i64 x.Thing,.i .i64 x.Holder,.i .i64 x.Who,.i .i64 x.At,.i .i64 x.Seal]
theorem QoC(x:Hand):Zc x=[.i .i64 x.Thing,.i .i64 x.Holder,.i .i64 x.Who,.i .i64 x.At,.i .i64 x.Seal]:=_root_.id rfl
instance(yxThing yxHolder yxWho yxAt yxSeal)  : EncR Zc [.i .i64 yxThing,.i .i64 yxHolder,.i .i64 yxWho,.i .i64 yxAt,.i .i64 yxSeal] (⟨yxThing,yxHolder,yxWho,yxAt,yxSeal⟩:Hand):=⟨by rfl⟩
theorem QsP(xs:List Hand):Qh (xs.map Zc)=xs.map Zc:=ZK (fun x=>by simp only[QoC,Q5,Vo]) xs
theorem QtP(xs:List Hand):Qz (xs.map Zc)=true:=Jb (fun x=>by simp only[QoC,Vt,AV.clean,Bool.and_self]) xs
theorem QAd(x:Hand):(⟨x.Thing,x.Holder,x.Who,x.At,x.Seal⟩:Hand)=x:=_root_.id rfl
def Jk(x:Entry):List AV:=[.i .i64 x.From,.i .i64 x.To,.i .i64 x.Cents,.i .i64 x.At]
theorem Qmd(x:Entry):Jk x=[.i .i64 x.From,.i .i64 x.To,.i .i64 x.Cents,.i .i64 x.At]:=_root_.id rfl
instance(yxFrom yxTo yxCents yxAt)  : EncR Jk [.i .i64 yxFrom,.i .i64 yxTo,.i .i64 yxCents,.i .i64 yxAt] (⟨yxFrom,yxTo,yxCents,yxAt⟩:Entry):=⟨by rfl⟩
theorem Qpr(xs:List Entry):Qh (xs.map Jk)=xs.map Jk:=ZK (fun x=>by simp only[Qmd,Q5,Vo]) xs
theorem QpJ(xs:List Entry):Qz (xs.map Jk)=true:=Jb (fun x=>by simp only[Qmd,Vt,AV.clean,Bool.and_self]) xs
theorem Qxs(x:Entry):(⟨x.From,x.To,x.Cents,x.At⟩:Entry)=x:=_root_.id rfl
def Q6(x:House):List AV:=[.i .i64 x.No,.imm 8 (x.Finds.map QX),.imm 3 (x.Secrets.map Jl),.imm 3 (x.Slots.map VM),.imm 5 (x.Claims.map Vk),.imm 4 (x.Trials.map Jy),.imm 5 (x.Chain.map Zc),.imm 4 (x.Book.map Jk),.i .i64 x.Now]
theorem Qqh(x:House):Q6 x=[.i .i64 x.No,.imm 8 (x.Finds.map QX),.imm 3 (x.Secrets.map Jl),.imm 3 (x.Slots.map VM),.imm 5 (x.Claims.map Vk),.imm 4 (x.Trials.map Jy),.imm 5 (x.Chain.map Zc),.imm 4 (x.Book.map Jk),.i .i64 x.Now]:=_root_.id rfl
instance(yxNo yxNow){R1 yxFinds R2 yxSecrets R3 yxSlots R4 yxClaims R5 yxTrials R6 yxChain R7 yxBook}[H1:EncL QX R1 yxFinds][H2:EncL Jl R2 yxSecrets][H3:EncL VM R3 yxSlots][H4:EncL Vk R4 yxClaims][H5:EncL Jy R5 yxTrials][H6:EncL Zc R6 yxChain][H7:EncL Jk R7 yxBook]:EncR Q6 [.i .i64 yxNo,.imm 8 R1,.imm 3 R2,.imm 3 R3,.imm 5 R4,.imm 4 R5,.imm 5 R6,.imm 4 R7,.i .i64 yxNow] (⟨yxNo,yxFinds,yxSecrets,yxSlots,yxClaims,yxTrials,yxChain,yxBook,yxNow⟩:House):=⟨by obtain⟨rfl⟩:=H1;obtain⟨rfl⟩:=H2;obtain⟨rfl⟩:=H3;obtain⟨rfl⟩:=H4;obtain⟨rfl⟩:=H5;obtain⟨rfl⟩:=H6;obtain⟨rfl⟩:=H7;rfl⟩
def Ja(x:House):List AV:=[.i .i64 x.No,.own 8 (x.Finds.map QX),.own 3 (x.Secrets.map Xl),.own 3 (x.Slots.map VM),.own 5 (x.Claims.map Vk),.own 4 (x.Trials.map Jy),.own 5 (x.Chain.map Zc),.own 4 (x.Book.map Jk),.i .i64 x.Now]
theorem Qj2(x:House):Ja x=[.i .i64 x.No,.own 8 (x.Finds.map QX),.own 3 (x.Secrets.map Xl),.own 3 (x.Slots.map VM),.own 5 (x.Claims.map Vk),.own 4 (x.Trials.map Jy),.own 5 (x.Chain.map Zc),.own 4 (x.Book.map Jk),.i .i64 x.Now]:=_root_.id rfl
instance(yxNo yxNow){R1 yxFinds R2 yxSecrets R3 yxSlots R4 yxClaims R5 yxTrials R6 yxChain R7 yxBook}[H1:EncL QX R1 yxFinds][H2:EncL Xl R2 yxSecrets][H3:EncL VM R3 yxSlots][H4:EncL Vk R4 yxClaims][H5:EncL Jy R5 yxTrials][H6:EncL Zc R6 yxChain][H7:EncL Jk R7 yxBook]:EncR Ja [.i .i64 yxNo,.own 8 R1,.own 3 R2,.own 3 R3,.own 5 R4,.own 4 R5,.own 5 R6,.own 4 R7,.i .i64 yxNow] (⟨yxNo,yxFinds,yxSecrets,yxSlots,yxClaims,yxTrials,yxChain,yxBook,yxNow⟩:House):=⟨by obtain⟨rfl⟩:=H1;obtain⟨rfl⟩:=H2;obtain⟨rfl⟩:=H3;obtain⟨rfl⟩:=H4;obtain⟨rfl⟩:=H5;obtain⟨rfl⟩:=H6;obtain⟨rfl⟩:=H7;rfl⟩
theorem QyB(xs:List House):Qh (xs.map Ja)=xs.map Q6:=ZK (fun x=>by simp only[Qj2,Qqh,Q5,Vo,Qps,Qpr,Qtq,QsP,Qm7,Qs1,QoX]) xs
theorem QwO(xs:List House):Qz (xs.map Ja)=true:=Jb (fun x=>by simp only[Qj2,Vt,AV.clean,Bool.and_self,Qpw,QpJ,QtD,QtP,Qnr,Qsq,QqU]) xs
theorem QvT(x:House):(⟨x.No,x.Finds,x.Secrets,x.Slots,x.Claims,x.Trials,x.Chain,x.Book,x.Now⟩:House)=x:=_root_.id rfl
def Qbn(x:Bid):List AV:=[.i .i64 x.Who,.i .i64 x.Cents,.i .i64 x.Seal]
theorem QrQ(x:Bid):Qbn x=[.i .i64 x.Who,.i .i64 x.Cents,.i .i64 x.Seal]:=_root_.id rfl
instance(yxWho yxCents yxSeal)  : EncR Qbn [.i .i64 yxWho,.i .i64 yxCents,.i .i64 yxSeal] (⟨yxWho,yxCents,yxSeal⟩:Bid):=⟨by rfl⟩
theorem Qvr(xs:List Bid):Qh (xs.map Qbn)=xs.map Qbn:=ZK (fun x=>by simp only[QrQ,Q5,Vo]) xs
theorem QwD(xs:List Bid):Qz (xs.map Qbn)=true:=Jb (fun x=>by simp only[QrQ,Vt,AV.clean,Bool.and_self]) xs
theorem QDE(x:Bid):(⟨x.Who,x.Cents,x.Seal⟩:Bid)=x:=_root_.id rfl
def QhI(x:Event):List AV:=[.i .i64 x.Kind,.i .i64 x.Find.Thing.Id,.i .i64 x.Find.Thing.Kind,.i .i64 x.Find.Thing.Colour,.i .i64 x.Find.Thing.Size,.i .i64 x.Find.Thing.Worth,.i .i64 x.Find.Place,.i .i64 x.Find.At,.i .i64 x.Find.Finder,.imm 2 (x.Marks.map J8),.i .i64 x.Id,.i .i64 x.Who,.i .i64 x.N,.imm 3 (x.Bids.map Qbn)]
theorem QpD(x:Event):QhI x=[.i .i64 x.Kind,.i .i64 x.Find.Thing.Id,.i .i64 x.Find.Thing.Kind,.i .i64 x.Find.Thing.Colour,.i .i64 x.Find.Thing.Size,.i .i64 x.Find.Thing.Worth,.i .i64 x.Find.Place,.i .i64 x.Find.At,.i .i64 x.Find.Finder,.imm 2 (x.Marks.map J8),.i .i64 x.Id,.i .i64 x.Who,.i .i64 x.N,.imm 3 (x.Bids.map Qbn)]:=_root_.id rfl
instance(yxKind yxFindxThingxId yxFindxThingxKind yxFindxThingxColour yxFindxThingxSize yxFindxThingxWorth yxFindxPlace yxFindxAt yxFindxFinder yxId yxWho yxN){R1 yxMarks R2 yxBids}[H1:EncL J8 R1 yxMarks][H2:EncL Qbn R2 yxBids]:EncR QhI [.i .i64 yxKind,.i .i64 yxFindxThingxId,.i .i64 yxFindxThingxKind,.i .i64 yxFindxThingxColour,.i .i64 yxFindxThingxSize,.i .i64 yxFindxThingxWorth,.i .i64 yxFindxPlace,.i .i64 yxFindxAt,.i .i64 yxFindxFinder,.imm 2 R1,.i .i64 yxId,.i .i64 yxWho,.i .i64 yxN,.imm 3 R2] (⟨yxKind,⟨⟨yxFindxThingxId,yxFindxThingxKind,yxFindxThingxColour,yxFindxThingxSize,yxFindxThingxWorth⟩,yxFindxPlace,yxFindxAt,yxFindxFinder⟩,yxMarks,yxId,yxWho,yxN,yxBids⟩:Event):=⟨by obtain⟨rfl⟩:=H1;obtain⟨rfl⟩:=H2;rfl⟩
def Qfi(x:Event):List AV:=[.i .i64 x.Kind,.i .i64 x.Find.Thing.Id,.i .i64 x.Find.Thing.Kind,.i .i64 x.Find.Thing.Colour,.i .i64 x.Find.Thing.Size,.i .i64 x.Find.Thing.Worth,.i .i64 x.Find.Place,.i .i64 x.Find.At,.i .i64 x.Find.Finder,.own 2 (x.Marks.map J8),.i .i64 x.Id,.i .i64 x.Who,.i .i64 x.N,.own 3 (x.Bids.map Qbn)]
theorem QjH(x:Event):Qfi x=[.i .i64 x.Kind,.i .i64 x.Find.Thing.Id,.i .i64 x.Find.Thing.Kind,.i .i64 x.Find.Thing.Colour,.i .i64 x.Find.Thing.Size,.i .i64 x.Find.Thing.Worth,.i .i64 x.Find.Place,.i .i64 x.Find.At,.i .i64 x.Find.Finder,.own 2 (x.Marks.map J8),.i .i64 x.Id,.i .i64 x.Who,.i .i64 x.N,.own 3 (x.Bids.map Qbn)]:=_root_.id rfl
instance(yxKind yxFindxThingxId yxFindxThingxKind yxFindxThingxColour yxFindxThingxSize yxFindxThingxWorth yxFindxPlace yxFindxAt yxFindxFinder yxId yxWho yxN){R1 yxMarks R2 yxBids}[H1:EncL J8 R1 yxMarks][H2:EncL Qbn R2 yxBids]:EncR Qfi [.i .i64 yxKind,.i .i64 yxFindxThingxId,.i .i64 yxFindxThingxKind,.i .i64 yxFindxThingxColour,.i .i64 yxFindxThingxSize,.i .i64 yxFindxThingxWorth,.i .i64 yxFindxPlace,.i .i64 yxFindxAt,.i .i64 yxFindxFinder,.own 2 R1,.i .i64 yxId,.i .i64 yxWho,.i .i64 yxN,.own 3 R2] (⟨yxKind,⟨⟨yxFindxThingxId,yxFindxThingxKind,yxFindxThingxColour,yxFindxThingxSize,yxFindxThingxWorth⟩,yxFindxPlace,yxFindxAt,yxFindxFinder⟩,yxMarks,yxId,yxWho,yxN,yxBids⟩:Event):=⟨by obtain⟨rfl⟩:=H1;obtain⟨rfl⟩:=H2;rfl⟩
theorem Qxg(xs:List Event):Qh (xs.map Qfi)=xs.map QhI:=ZK (fun x=>by simp only[QjH,QpD,Q5,Vo,Qvr,Qob]) xs
theorem QvS(xs:List Event):Qz (xs.map Qfi)=true:=Jb (fun x=>by simp only[QjH,Vt,AV.clean,Bool.and_self,QwD,QoF]) xs
theorem QvE(x:Event):(⟨x.Kind,x.Find,x.Marks,x.Id,x.Who,x.N,x.Bids⟩:Event)=x:=_root_.id rfl
def QjG(x:Share):List AV:=[.i .i64 x.Who,.i .i64 x.Cents]
theorem Qli(x:Share):QjG x=[.i .i64 x.Who,.i .i64 x.Cents]:=_root_.id rfl
instance(yxWho yxCents)  : EncR QjG [.i .i64 yxWho,.i .i64 yxCents] (⟨yxWho,yxCents⟩:Share):=⟨by rfl⟩
theorem QvF(xs:List Share):Qh (xs.map QjG)=xs.map QjG:=ZK (fun x=>by simp only[Qli,Q5,Vo]) xs
theorem Qx7(xs:List Share):Qz (xs.map QjG)=true:=Jb (fun x=>by simp only[Qli,Vt,AV.clean,Bool.and_self]) xs
theorem QwN(x:Share):(⟨x.Who,x.Cents⟩:Share)=x:=_root_.id rfl
def Qiu(x:Span):List AV:=[.i .i64 x.From,.i .i64 x.Until]
theorem QoI(x:Span):Qiu x=[.i .i64 x.From,.i .i64 x.Until]:=_root_.id rfl
instance(yxFrom yxUntil)  : EncR Qiu [.i .i64 yxFrom,.i .i64 yxUntil] (⟨yxFrom,yxUntil⟩:Span):=⟨by rfl⟩
theorem QyN(xs:List Span):Qh (xs.map Qiu)=xs.map Qiu:=ZK (fun x=>by simp only[QoI,Q5,Vo]) xs
theorem QA2(xs:List Span):Qz (xs.map Qiu)=true:=Jb (fun x=>by simp only[QoI,Vt,AV.clean,Bool.and_self]) xs
theorem QzM(x:Span):(⟨x.From,x.Until⟩:Span)=x:=_root_.id rfl
def VN(x:Report):List AV:=[.i .i64 x.Id,.i .i64 x.Kind,.imm 1 (x.Colours.map Qi),.i .i64 x.SizeLow,.i .i64 x.SizeHigh,.imm 1 (x.Places.map Qi),.i .i64 x.Span.From,.i .i64 x.Span.Until]
theorem QnE(x:Report):VN x=[.i .i64 x.Id,.i .i64 x.Kind,.imm 1 (x.Colours.map Qi),.i .i64 x.SizeLow,.i .i64 x.SizeHigh,.imm 1 (x.Places.map Qi),.i .i64 x.Span.From,.i .i64 x.Span.Until]:=_root_.id rfl
instance(yxId yxKind yxSizeLow yxSizeHigh yxSpanxFrom yxSpanxUntil){R1 yxColours R2 yxPlaces}[H1:EncL Qi R1 yxColours][H2:EncL Qi R2 yxPlaces]:EncR VN [.i .i64 yxId,.i .i64 yxKind,.imm 1 R1,.i .i64 yxSizeLow,.i .i64 yxSizeHigh,.imm 1 R2,.i .i64 yxSpanxFrom,.i .i64 yxSpanxUntil] (⟨yxId,yxKind,yxColours,yxSizeLow,yxSizeHigh,yxPlaces,⟨yxSpanxFrom,yxSpanxUntil⟩⟩:Report):=⟨by obtain⟨rfl⟩:=H1;obtain⟨rfl⟩:=H2;rfl⟩
def Qin(x:Report):List AV:=[.i .i64 x.Id,.i .i64 x.Kind,.own 1 (x.Colours.map Qi),.i .i64 x.SizeLow,.i .i64 x.SizeHigh,.own 1 (x.Places.map Qi),.i .i64 x.Span.From,.i .i64 x.Span.Until]
theorem QhL(x:Report):Qin x=[.i .i64 x.Id,.i .i64 x.Kind,.own 1 (x.Colours.map Qi),.i .i64 x.SizeLow,.i .i64 x.SizeHigh,.own 1 (x.Places.map Qi),.i .i64 x.Span.From,.i .i64 x.Span.Until]:=_root_.id rfl
instance(yxId yxKind yxSizeLow yxSizeHigh yxSpanxFrom yxSpanxUntil){R1 yxColours R2 yxPlaces}[H1:EncL Qi R1 yxColours][H2:EncL Qi R2 yxPlaces]:EncR Qin [.i .i64 yxId,.i .i64 yxKind,.own 1 R1,.i .i64 yxSizeLow,.i .i64 yxSizeHigh,.own 1 R2,.i .i64 yxSpanxFrom,.i .i64 yxSpanxUntil] (⟨yxId,yxKind,yxColours,yxSizeLow,yxSizeHigh,yxPlaces,⟨yxSpanxFrom,yxSpanxUntil⟩⟩:Report):=⟨by obtain⟨rfl⟩:=H1;obtain⟨rfl⟩:=H2;rfl⟩
theorem QuJ(xs:List Report):Qh (xs.map Qin)=xs.map VN:=ZK (fun x=>by simp only[QhL,QnE,Q5,Vo,QvQ]) xs
theorem Qug(xs:List Report):Qz (xs.map Qin)=true:=Jb (fun x=>by simp only[QhL,Vt,AV.clean,Bool.and_self,Qvu]) xs
theorem Qvo(x:Report):(⟨x.Id,x.Kind,x.Colours,x.SizeLow,x.SizeHigh,x.Places,x.Span⟩:Report)=x:=_root_.id rfl
def QeB(x:List Int):List AV:=[.imm 1 (x.map Qi)]
theorem QxF(x:List Int):QeB x=[.imm 1 (x.map Qi)]:=_root_.id rfl
instance{R}{x:List Int}[H:EncL Qi R x]:EncR QeB [.imm 1 R] x:=⟨by obtain⟨rfl⟩:=H;rfl⟩
theorem Quf{R:List (List AV)}{xs:List (List Int)}(i:Int)[h:EncL QeB R xs]:inb R i=inb xs i:=by rw[h.eq,Qnf]
theorem QuG{R:List (List AV)}{xs:List (List Int)}(i:Int)[h:EncL QeB R xs](hi:inb xs i=true):QB R i.toNat=QeB (gt xs i):=by rw[h.eq,Qnk xs i hi]
def QHM:=aI @Qoc<|aI @QvQ<|aI @Qvu<|aI @QEz<|aI @QFX<|aI @Qq7<|aI @QCJ<|aI @QB6<|aI @QJE<|aI @QHV<|aI @QyA<|aI @QQe<|aI @QOM<|aI @QRv<|aI @QQB<|aI @QwJ<|aI @QRl<|aI @QSx<|aI @QPd<|aI @QQc<|aI @Qqg<|aI @Qyt<|aI @Qys<|aI @Qyu<|aI @Qj3<|aI @Qr5<|aI @QET<|aI @QEc<|aI @QGq<|aI @Qoi<|aI @Qs1<|aI @Qsq<|aI @QBj<|aI @QnM<|aI @Qob<|aI @QoF<|aI @QAC<|aI @Qnh<|aI @Qm7<|aI @Qnr<|aI @QuD<|aI @QhZ<|aI @Ql9<|aI @Qxb<|aI @QwQ<|aI @Qwg<|aI @QoE<|aI @Qtq<|aI @QtD<|aI @Qz4<|aI @Qlc<|aI @Qps<|aI @Qpw<|aI @Qwf<|aI @Ql5<|aI @QoX<|aI @QqU<|aI @Qyd<|aI @QoC<|aI @QsP<|aI @QtP<|aI @QAd<|aI @Qmd<|aI @Qpr<|aI @QpJ<|aI @Qxs<|aI @Qqh<|aI @QyB<|aI @QwO<|aI @QvT<|aI @Qj2<|aI @QrQ<|aI @Qvr<|aI @QwD<|aI @QDE<|aI @QpD<|aI @Qxg<|aI @QvS<|aI @QvE<|aI @QjH<|aI @Qli<|aI @QvF<|aI @Qx7<|aI @QwN<|aI @QoI<|aI @QyN<|aI @QA2<|aI @QzM<|aI @QnE<|aI @QuJ<|aI @Qug<|aI @Qvo<|aI @QhL<|aI @Qyo<|aI @QxF<|aI @Quf @QuG
theorem tys:bsl Tryz.prog 5=false∧Qc8 Tryz.prog 168=[0,0]∧Qc8 Tryz.prog 24=[0,0,0,0,0,0,0,0]∧Qc8 Tryz.prog 25=[0,2,0]∧Qc8 Tryz.prog 26=[0,0,0]∧Qc8 Tryz.prog 263=[1]∧Qc8 Tryz.prog 27=[0,0,0,0,0]∧Qc8 Tryz.prog 28=[0,0,0,0]∧Qc8 Tryz.prog 29=[0,0,0,0,0]∧Qc8 Tryz.prog 30=[0,0,0,0]∧Qc8 Tryz.prog 33=[0,0,0,0,0,0,0,0,0,2,0,0,0,3]∧Qc8 Tryz.prog 43=[0,0]∧Qc8 Tryz.prog 44=[0,0,0]∧Qc8 Tryz.prog 49=[0]∧Qc8 Tryz.prog 69=[0,8,3,3,5,4,5,4,0]∧Qc8 Tryz.prog 72=[0,0]∧tb Tryz.prog 119=some 16∧tb Tryz.prog 121=some 40∧tb Tryz.prog 141=some 24∧tb Tryz.prog 219=some 24∧tb Tryz.prog 3=some 8∧tb Tryz.prog 32=some 184∧tb Tryz.prog 42=some 64∧tb Tryz.prog 46=some 144∧tb Tryz.prog 53=some 40∧tb Tryz.prog 58=some 40∧tb Tryz.prog 60=some 32∧tb Tryz.prog 79=some 16∧tb Tryz.prog 99=some 32∧tbd Tryz.prog 119=.st [.i .i64 0,.i .i64 0] [(0,1),(1,1)]∧tbd Tryz.prog 121=.st [.i .i64 0,.nil,.i .i64 0] [(0,1),(1,1),(2,1)]∧tbd Tryz.prog 134=.st [.nil,.i .i64 0,.i .i64 0] [(0,1),(1,1),(2,1)]∧tbd Tryz.prog 141=.st [.i .i64 0,.i .i64 0,.i .i64 0] [(0,1),(1,1),(2,1)]∧tbd Tryz.prog 171=.st [.i .i64 0,.i .i64 0] [(0,1),(1,1)]∧tbd Tryz.prog 219=.st [.i .i64 0,.i .i64 0,.i .i64 0] [(0,1),(1,1),(2,1)]∧tbd Tryz.prog 32=.st [.i .i64 0,.nil,.nil,.nil,.nil,.nil,.nil,.nil,.i .i64 0] [(0,1),(1,1),(2,1),(3,1),(4,1),(5,1),(6,1),(7,1),(8,1)]∧tbd Tryz.prog 40=.st [.i .i64 0,.i .i64 0,.i .i64 0,.i .i64 0,.i .i64 0] [(0,1),(1,1),(2,1),(3,1),(4,1)]∧tbd Tryz.prog 42=.st [.i .i64 0,.i .i64 0,.i .i64 0,.i .i64 0,.i .i64 0,.i .i64 0,.i .i64 0,.i .i64 0] [(0,5),(5,1),(6,1),(7,1)]∧tbd Tryz.prog 46=.st [.i .i64 0,.i .i64 0,.i .i64 0,.i .i64 0,.i .i64 0,.i .i64 0,.i .i64 0,.i .i64 0,.i .i64 0,.nil,.i .i64 0,.i .i64 0,.i .i64 0,.nil] [(0,1),(1,8),(9,1),(10,1),(11,1),(12,1),(13,1)]∧tbd Tryz.prog 53=.st [.i .i64 0,.i .i64 0,.i .i64 0,.i .i64 0,.i .i64 0] [(0,1),(1,1),(2,1),(3,1),(4,1)]∧tbd Tryz.prog 58=.st [.i .i64 0,.i .i64 0,.i .i64 0,.i .i64 0,.i .i64 0] [(0,1),(1,1),(2,1),(3,1),(4,1)]∧tbd Tryz.prog 60=.st [.i .i64 0,.i .i64 0,.i .i64 0,.i .i64 0] [(0,1),(1,1),(2,1),(3,1)]∧tbd Tryz.prog 66=.st [.i .i64 0,.i .i64 0] [(0,1),(1,1)]∧tbd Tryz.prog 68=.st [.i .i64 0,.i .i64 0,.nil,.i .i64 0,.i .i64 0,.nil,.i .i64 0,.i .i64 0] [(0,1),(1,1),(2,1),(3,1),(4,1),(5,1),(6,2)]∧tbd Tryz.prog 79=.st [.i .i64 0,.i .i64 0] [(0,1),(1,1)]∧tbd Tryz.prog 99=.st [.i .i64 0,.i .i64 0,.i .i64 0,.i .i64 0] [(0,1),(1,1),(2,1),(3,1)]∧Qjl Tryz.prog 4=some [.t]∧Qjl Tryz.prog 79=some [.i,.i]∧tfo Tryz.prog 119 0=some (0,.one)∧tfo Tryz.prog 119 1=some (1,.one)∧tfo Tryz.prog 121 0=some (0,.one)∧tfo Tryz.prog 121 1=some (1,.one)∧tfo Tryz.prog 121 2=some (2,.one)∧tfo Tryz.prog 134 0=some (0,.one)∧tfo Tryz.prog 134 1=some (1,.one)∧tfo Tryz.prog 134 2=some (2,.one)∧tfo Tryz.prog 141 0=some (0,.one)∧tfo Tryz.prog 141 1=some (1,.one)∧tfo Tryz.prog 141 2=some (2,.one)∧tfo Tryz.prog 171 0=some (0,.one)∧tfo Tryz.prog 171 1=some (1,.one)∧tfo Tryz.prog 219 0=some (0,.one)∧tfo Tryz.prog 219 1=some (1,.one)∧tfo Tryz.prog 219 2=some (2,.one)∧tfo Tryz.prog 32 0=some (0,.one)∧tfo Tryz.prog 32 1=some (1,.one)∧tfo Tryz.prog 32 2=some (2,.one)∧tfo Tryz.prog 32 3=some (3,.one)∧tfo Tryz.prog 32 4=some (4,.one)∧tfo Tryz.prog 32 5=some (5,.one)∧tfo Tryz.prog 32 6=some (6,.one)∧tfo Tryz.prog 32 7=some (7,.one)∧tfo Tryz.prog 32 8=some (8,.one)∧tfo Tryz.prog 40 0=some (0,.one)∧tfo Tryz.prog 40 1=some (1,.one)∧tfo Tryz.prog 40 2=some (2,.one)∧tfo Tryz.prog 40 3=some (3,.one)∧tfo Tryz.prog 40 4=some (4,.one)∧tfo Tryz.prog 42 0=some (0,.agg 5)∧tfo Tryz.prog 42 1=some (5,.one)∧tfo Tryz.prog 42 2=some (6,.one)∧tfo Tryz.prog 42 3=some (7,.one)∧tfo Tryz.prog 46 0=some (0,.one)∧tfo Tryz.prog 46 1=some (1,.agg 8)∧tfo Tryz.prog 46 2=some (9,.one)∧tfo Tryz.prog 46 3=some (10,.one)∧tfo Tryz.prog 46 4=some (11,.one)∧tfo Tryz.prog 46 5=some (12,.one)∧tfo Tryz.prog 46 6=some (13,.one)∧tfo Tryz.prog 53 0=some (0,.one)∧tfo Tryz.prog 53 1=some (1,.one)∧tfo Tryz.prog 53 2=some (2,.one)∧tfo Tryz.prog 53 3=some (3,.one)∧tfo Tryz.prog 53 4=some (4,.one)∧tfo Tryz.prog 58 0=some (0,.one)∧tfo Tryz.prog 58 1=some (1,.one)∧tfo Tryz.prog 58 2=some (2,.one)∧tfo Tryz.prog 58 3=some (3,.one)∧tfo Tryz.prog 58 4=some (4,.one)∧tfo Tryz.prog 60 0=some (0,.one)∧tfo Tryz.prog 60 1=some (1,.one)∧tfo Tryz.prog 60 2=some (2,.one)∧tfo Tryz.prog 60 3=some (3,.one)∧tfo Tryz.prog 66 0=some (0,.one)∧tfo Tryz.prog 66 1=some (1,.one)∧tfo Tryz.prog 68 0=some (0,.one)∧tfo Tryz.prog 68 1=some (1,.one)∧tfo Tryz.prog 68 2=some (2,.one)∧tfo Tryz.prog 68 3=some (3,.one)∧tfo Tryz.prog 68 4=some (4,.one)∧tfo Tryz.prog 68 5=some (5,.one)∧tfo Tryz.prog 68 6=some (6,.agg 2)∧tfo Tryz.prog 79 0=some (0,.one)∧tfo Tryz.prog 99 0=some (0,.one)∧tfo Tryz.prog 99 1=some (1,.one)∧tfo Tryz.prog 99 2=some (2,.one)∧tfo Tryz.prog 99 3=some (3,.one)∧ti Tryz.prog 168=.sl 171 2∧ti Tryz.prog 22=.sl 5 1∧ti Tryz.prog 24=.sl 42 8∧ti Tryz.prog 25=.sl 121 3∧ti Tryz.prog 26=.sl 141 3∧ti Tryz.prog 263=.sl 49 1∧ti Tryz.prog 27=.sl 58 5∧ti Tryz.prog 28=.sl 60 4∧ti Tryz.prog 29=.sl 53 5∧ti Tryz.prog 3=.int .i64∧ti Tryz.prog 30=.sl 99 4∧ti Tryz.prog 33=.sl 46 14∧ti Tryz.prog 43=.sl 119 2∧ti Tryz.prog 44=.sl 219 3∧ti Tryz.prog 49=.sl 3 1∧ti Tryz.prog 69=.sl 32 9∧ti Tryz.prog 72=.sl 79 2∧tk Tryz.prog 121=.agg 3∧tk Tryz.prog 141=.agg 3∧tk Tryz.prog 219=.agg 3∧tk Tryz.prog 22=.one∧tk Tryz.prog 24=.one∧tk Tryz.prog 25=.one∧tk Tryz.prog 26=.one∧tk Tryz.prog 27=.one∧tk Tryz.prog 28=.one∧tk Tryz.prog 29=.one∧tk Tryz.prog 3=.one∧tk Tryz.prog 30=.one∧tk Tryz.prog 32=.agg 9∧tk Tryz.prog 40=.agg 5∧tk Tryz.prog 42=.agg 8∧tk Tryz.prog 43=.one∧tk Tryz.prog 44=.one∧tk Tryz.prog 46=.agg 14∧tk Tryz.prog 49=.one∧tk Tryz.prog 5=.one∧tk Tryz.prog 53=.agg 5∧tk Tryz.prog 58=.agg 5∧tk Tryz.prog 60=.agg 4∧tk Tryz.prog 66=.agg 2∧tk Tryz.prog 68=.agg 8∧tk Tryz.prog 79=.agg 2∧tk Tryz.prog 99=.agg 4∧Z6 Tryz.prog 24=true∧Z6 Tryz.prog 25=true∧Z6 Tryz.prog 26=true∧Z6 Tryz.prog 27=true∧Z6 Tryz.prog 28=true∧Z6 Tryz.prog 29=true∧Z6 Tryz.prog 30=true∧Z6 Tryz.prog 33=true∧Z6 Tryz.prog 43=true∧Z6 Tryz.prog 44=true∧Z6 Tryz.prog 49=true∧Z6 Tryz.prog 69=true∧Z6 Tryz.prog 72=true∧tok Tryz.prog 5=true∧tse Tryz.prog 168=some (171,2,[.i .i64 0,.i .i64 0])∧tse Tryz.prog 24=some (42,8,[.i .i64 0,.i .i64 0,.i .i64 0,.i .i64 0,.i .i64 0,.i .i64 0,.i .i64 0,.i .i64 0])∧tse Tryz.prog 25=some (121,3,[.i .i64 0,.nil,.i .i64 0])∧tse Tryz.prog 26=some (141,3,[.i .i64 0,.i .i64 0,.i .i64 0])∧tse Tryz.prog 263=some (49,1,[.nil])∧tse Tryz.prog 27=some (58,5,[.i .i64 0,.i .i64 0,.i .i64 0,.i .i64 0,.i .i64 0])∧tse Tryz.prog 28=some (60,4,[.i .i64 0,.i .i64 0,.i .i64 0,.i .i64 0])∧tse Tryz.prog 29=some (53,5,[.i .i64 0,.i .i64 0,.i .i64 0,.i .i64 0,.i .i64 0])∧tse Tryz.prog 30=some (99,4,[.i .i64 0,.i .i64 0,.i .i64 0,.i .i64 0])∧tse Tryz.prog 33=some (46,14,[.i .i64 0,.i .i64 0,.i .i64 0,.i .i64 0,.i .i64 0,.i .i64 0,.i .i64 0,.i .i64 0,.i .i64 0,.nil,.i .i64 0,.i .i64 0,.i .i64 0,.nil])∧tse Tryz.prog 43=some (119,2,[.i .i64 0,.i .i64 0])∧tse Tryz.prog 44=some (219,3,[.i .i64 0,.i .i64 0,.i .i64 0])∧tse Tryz.prog 49=some (3,1,[.i .i64 0])∧tse Tryz.prog 69=some (32,9,[.i .i64 0,.nil,.nil,.nil,.nil,.nil,.nil,.nil,.i .i64 0])∧tse Tryz.prog 72=some (79,2,[.i .i64 0,.i .i64 0])∧tzc Tryz.prog 219=some [.i .i64 0,.i .i64 0,.i .i64 0]∧tzc Tryz.prog 32=some [.i .i64 0,.nil,.nil,.nil,.nil,.nil,.nil,.nil,.i .i64 0]∧tzc Tryz.prog 40=some [.i .i64 0,.i .i64 0,.i .i64 0,.i .i64 0,.i .i64 0]∧tzc Tryz.prog 42=some [.i .i64 0,.i .i64 0,.i .i64 0,.i .i64 0,.i .i64 0,.i .i64 0,.i .i64 0,.i .i64 0]∧tzc Tryz.prog 46=some [.i .i64 0,.i .i64 0,.i .i64 0,.i .i64 0,.i .i64 0,.i .i64 0,.i .i64 0,.i .i64 0,.i .i64 0,.nil,.i .i64 0,.i .i64 0,.i .i64 0,.nil]∧tzc Tryz.prog 53=some [.i .i64 0,.i .i64 0,.i .i64 0,.i .i64 0,.i .i64 0]∧tzc Tryz.prog 58=some [.i .i64 0,.i .i64 0,.i .i64 0,.i .i64 0,.i .i64 0]∧tzc Tryz.prog 60=some [.i .i64 0,.i .i64 0,.i .i64 0,.i .i64 0]∧tzc Tryz.prog 66=some [.i .i64 0,.i .i64 0]∧tzc Tryz.prog 68=some [.i .i64 0,.i .i64 0,.nil,.i .i64 0,.i .i64 0,.nil,.i .i64 0,.i .i64 0]∧tzc Tryz.prog 99=some [.i .i64 0,.i .i64 0,.i .i64 0,.i .i64 0]:=by and_intros<;>kernel_rfl
def xt(g:Nat)(args:List AV):Option AV:=match args with
 |[.nil,.i .i64 x]=>if g=269 then(Zk x).map fun r=>.own 1 (r.map Qi)else none
 |_=>none
def An4:Ann:={ av:=[(3,[20]),(15,[27])],jn:=[(16,(2,61,81))],lp:=[(10,⟨[0,4,6,8,9],[.s 6 2,.s 8 1],[0,4,8],[.s 8 1]⟩)],rt:=⟨[2],[],[],[]⟩ }
def An5:Ann:={}
def An8:Ann:={ jn:=[(1,(48,3,48)),(3,(86,49,86)),(5,(2,87,93))] }
def QxQ:Ann:={ ot:=[(11,.one 1 (.one 2 (.alt (.one 0 (.one 3 (.one 4 (.one 5 (.one 6 (.done)))))) (.one 3 (.one 0 (.one 4 (.one 5 (.one 6 (.done)))))))))],nr:=some [],av:=[(1,[30]),(3,[77]),(6,[31,32]),(7,[79]),(9,[80]),(10,[77,81]),(11,[77])],fz:=[(8,[6])],fc:=[(11,[(8,2),(8,5)])],lp:=[(4,⟨[0,2,5,6,7],[.s 2 0,.s 5 0,.s 6 9],[0,2,5,6],[.s 2 0,.s 5 0,.s 6 9]⟩)],sh:=[.a [0,0,1,0,0,1,0,0],.z 9,.n] }
def QxM:Ann:={ ord:=[(5,[0,1,2,4,3,5])],lp:=[(3,⟨[2,3,7,11,12,13],[.s 3 0,.s 7 2],[7],[.s 7 2]⟩)],sh:=[.z 2] }
def Qwp:Ann:={ lp:=[(3,⟨[2,5,9,10,11],[.s 2 0,.s 5 2],[5],[.s 5 2]⟩)],sh:=[.z 2] }
def QBr:Ann:={}
def QwL:Ann:={ ord:=[(5,[0,1,2,4,3,5])],lp:=[(3,⟨[2,3,7,11,12,13],[.s 3 0,.s 7 1],[7],[.s 7 1]⟩)],sh:=[.z 1] }
def Qyi:Ann:={ lp:=[(2,⟨[0,1,5],[],[],[]⟩)],rt:=⟨[4],[],[],[]⟩ }
def Qy7:Ann:={ ot:=[(3,.one 1 (.alt (.one 0 (.one 2 (.one 3 (.one 4 (.done))))) (.one 2 (.one 0 (.one 3 (.one 4 (.done)))))))],av:=[(1,[30]),(2,[85]),(3,[77])],sh:=[.a [0,8,3,3,5,4,5,4,0],.n] }
def Qz5:Ann:={ nr:=some [],av:=[(1,[86]),(3,[30]),(5,[80])],fz:=[(4,[6]),(7,[8])],sh:=[.z 2,.z 2] }
def QxP:Ann:={ lp:=[(2,⟨[0,3],[],[],[]⟩)],rt:=⟨[2],[],[],[]⟩ }
def QyQ:Ann:={ sh:=[.z 1] }
def Qxo:Ann:={ nr:=some [.s 32 0],jn:=[(3,(15,8,15))],lp:=[(3,⟨[0,3,4],[],[0,3],[]⟩)] }
def QA6:Ann:={ nr:=some [.r 0,.g 15 1 8,.g 15 2 3,.g 15 3 3,.g 15 4 5,.g 15 5 4,.g 15 6 5,.g 15 7 4],ak:=[0],av:=[(1,[77,91])],sh:=[.a [0,8,3,3,5,4,5,4,0]] }
def Qv4:Ann:={ nr:=some [.r 0,.s 26 14],ak:=[0],av:=[(1,[92]),(2,[77]),(5,[93])],lp:=[(3,⟨[0,5,6],[.s 0 0,.s 5 14],[0,5],[.s 0 0,.s 5 14]⟩)],sh:=[.z 14] }
def Qz2:Ann:={ jn:=[(1,(6,7,15))] }
def QwC:Ann:={ jn:=[(6,(34,15,34))],lp:=[(4,⟨[0,8,9,10],[],[],[]⟩)],rt:=⟨[2],[],[],[]⟩ }
def Qy8:Ann:={ jn:=[(1,(6,7,15))] }
def Qxf:Ann:={ jn:=[(4,(35,10,35))],lp:=[(2,⟨[0,3],[],[0],[]⟩)],rt:=⟨[2],[],[],[]⟩ }
def QvI:Ann:={ jn:=[(4,(61,10,61))],lp:=[(2,⟨[0,3],[],[0],[]⟩)],rt:=⟨[2],[],[],[]⟩ }
def Qvf:Ann:={ jn:=[(4,(53,11,53)),(9,(77,59,77))],lp:=[(2,⟨[0,3],[],[0],[]⟩),(7,⟨[0,3,4],[],[0,3],[]⟩)],rt:=⟨[2],[],[],[]⟩ }
def QuH:Ann:={ jn:=[(5,(58,16,58)),(10,(84,64,84))],lp:=[(2,⟨[0,3],[],[0],[]⟩),(8,⟨[0,3,4,5],[.s 4 0],[0,3],[]⟩)],rt:=⟨[2],[],[],[]⟩ }
def QxW:Ann:={ jn:=[(3,(15,7,15)),(7,(67,25,67)),(10,(96,73,96))],lp:=[(3,⟨[0,3,4],[],[0],[]⟩)],rt:=⟨[2],[],[],[]⟩ }
def QxO:Ann:={ jn:=[(5,(58,15,58))],lp:=[(2,⟨[0,3],[],[0],[]⟩)],rt:=⟨[2],[],[],[]⟩ }
def Qry:Ann:={ ord:=[(13,[0,1,2,3,4,5,6,7,8,9,10,11,14,15,12,13,16,17,18,19,20,21,22,23,24,25,26,27,28,29])],jn:=[(13,(77,48,77)),(18,(103,85,103))],lp:=[(5,⟨[1,3,4],[.s 1 0,.s 3 1],[1,3],[.s 1 0,.s 3 1]⟩),(10,⟨[1,3,5],[.s 1 0,.s 3 1],[1],[.s 1 0]⟩),(16,⟨[1,7],[.s 1 0],[],[]⟩)],rt:=⟨[2],[],[],[]⟩ }
def QxX:Ann:={ ord:=[(8,[0,1,2,3,4,5,6,7,8,9,10,11,12,13,14,15,16,17,18,19,20,21,22,23,24,25,26,27,28,29,30,32,33,34,35,36,38,31,37,39,40,41,42,43,44,45,46,47])],jn:=[(8,(77,30,77))],lp:=[(4,⟨[1,3],[.s 1 0],[],[]⟩)],rt:=⟨[2],[],[],[]⟩ }
def QzG:Ann:={}
def Qzy:Ann:={ ak:=[0],av:=[(4,[149]),(5,[149]),(6,[149]),(7,[149])] }
def Qw6:Ann:={ lp:=[(3,⟨[1,4,5,6],[.s 4 0,.s 5 0,.c 1 1 8,.c 1 2 3,.c 1 3 3,.c 1 4 5,.c 1 5 4,.c 1 6 5,.c 1 7 4],[4,5],[.s 4 0,.s 5 0,.c 1 1 8,.c 1 2 3,.c 1 3 3,.c 1 4 5,.c 1 5 4,.c 1 6 5,.c 1 7 4]⟩)],sh:=[.a [0,8,3,3,5,4,5,4,0]] }
def QzY:Ann:={ nr:=some [.r 0,.g 62 2 1,.g 62 5 1],ak:=[0],av:=[(1,[77,152]),(2,[77]),(4,[153]),(6,[153]),(8,[153]),(10,[154]),(12,[154]),(14,[153]),(16,[155])],sh:=[.a [0,0,1,0,0,1,0,0]] }
def QAB:Ann:={ ak:=[0],av:=[(1,[77])] }
def An81:Ann:={ ot:=[(6,.one 3 (.alt (.one 0 (.alt (.one 1 (.alt (.one 2 (.one 4 (.one 5 (.one 6 (.one 7 (.one 8 (.done))))))) (.one 4 (.one 2 (.one 5 (.one 6 (.one 7 (.one 8 (.done))))))))) (.one 4 (.one 1 (.one 2 (.one 5 (.one 6 (.one 7 (.one 8 (.done)))))))))) (.one 4 (.one 0 (.one 1 (.one 2 (.one 5 (.one 6 (.one 7 (.one 8 (.done))))))))))),(7,.one 3 (.alt (.one 0 (.alt (.one 1 (.alt (.one 2 (.one 4 (.one 5 (.one 6 (.one 7 (.one 8 (.done))))))) (.one 4 (.one 2 (.one 5 (.one 6 (.one 7 (.one 8 (.done))))))))) (.one 4 (.one 1 (.one 2 (.one 5 (.one 6 (.one 7 (.one 8 (.done)))))))))) (.one 4 (.one 0 (.one 1 (.one 2 (.one 5 (.one 6 (.one 7 (.one 8 (.done))))))))))),(11,.one 2 (.alt (.one 0 (.alt (.one 1 (.alt (.one 3 (.one 4 (.one 6 (.one 7 (.one 5 (.one 8 (.one 9 (.one 10 (.one 11 (.done)))))))))) (.one 6 (.alt (.one 3 (.one 4 (.one 7 (.one 5 (.one 8 (.one 9 (.one 10 (.one 11 (.done))))))))) (.one 7 (.one 3 (.one 4 (.one 5 (.one 8 (.one 9 (.one 10 (.one 11 (.done))))))))))))) (.alt (.one 3 (.one 1 (.one 4 (.one 6 (.one 7 (.one 5 (.one 8 (.one 9 (.one 10 (.one 11 (.done))))))))))) (.one 6 (.alt (.one 1 (.alt (.one 3 (.one 4 (.one 7 (.one 5 (.one 8 (.one 9 (.one 10 (.one 11 (.done))))))))) (.one 7 (.one 3 (.one 4 (.one 5 (.one 8 (.one 9 (.one 10 (.one 11 (.done))))))))))) (.alt (.one 3 (.one 1 (.one 4 (.one 7 (.one 5 (.one 8 (.one 9 (.one 10 (.one 11 (.done)))))))))) (.one 7 (.alt (.one 1 (.one 3 (.one 4 (.one 5 (.one 8 (.one 9 (.one 10 (.one 11 (.done))))))))) (.one 3 (.one 1 (.one 4 (.one 5 (.one 8 (.one 9 (.one 10 (.one 11 (.done))))))))))))))))) (.alt (.one 3 (.one 0 (.one 1 (.one 4 (.one 6 (.one 7 (.one 5 (.one 8 (.one 9 (.one 10 (.one 11 (.done)))))))))))) (.one 6 (.alt (.one 0 (.alt (.one 1 (.alt (.one 3 (.one 4 (.one 7 (.one 5 (.one 8 (.one 9 (.one 10 (.one 11 (.done))))))))) (.one 7 (.one 3 (.one 4 (.one 5 (.one 8 (.one 9 (.one 10 (.one 11 (.done))))))))))) (.alt (.one 3 (.one 1 (.one 4 (.one 7 (.one 5 (.one 8 (.one 9 (.one 10 (.one 11 (.done)))))))))) (.one 7 (.alt (.one 1 (.one 3 (.one 4 (.one 5 (.one 8 (.one 9 (.one 10 (.one 11 (.done))))))))) (.one 3 (.one 1 (.one 4 (.one 5 (.one 8 (.one 9 (.one 10 (.one 11 (.done)))))))))))))) (.alt (.one 3 (.one 0 (.one 1 (.one 4 (.one 7 (.one 5 (.one 8 (.one 9 (.one 10 (.one 11 (.done))))))))))) (.one 7 (.alt (.one 0 (.alt (.one 1 (.one 3 (.one 4 (.one 5 (.one 8 (.one 9 (.one 10 (.one 11 (.done))))))))) (.one 3 (.one 1 (.one 4 (.one 5 (.one 8 (.one 9 (.one 10 (.one 11 (.done))))))))))) (.one 3 (.one 0 (.one 1 (.one 4 (.one 5 (.one 8 (.one 9 (.one 10 (.one 11 (.done))))))))))))))))))],nr:=some [.r 0,.g 64 2 1,.g 64 5 1],ak:=[0],av:=[(1,[152]),(3,[80]),(5,[80]),(6,[77]),(7,[77]),(8,[80]),(10,[80]),(11,[77])],sh:=[.a [0,0,1,0,0,1,0,0]] }
def QyS:Ann:={}
def QwR:Ann:={ lp:=[(3,⟨[2,3,5,10,11,12],[.s 2 0,.s 3 0,.s 5 2,.s 10 8],[5],[.s 5 2]⟩)],sh:=[.z 2] }
def Qwm:Ann:={ lp:=[(4,⟨[0,1,12,13],[],[],[]⟩)],rt:=⟨[4],[],[],[]⟩ }
def Qzm:Ann:={ ot:=[(8,.one 2 (.alt (.one 0 (.alt (.one 1 (.alt (.one 3 (.one 4 (.one 5 (.one 6 (.one 7 (.one 8 (.one 9 (.one 10 (.one 11 (.one 12 (.one 13 (.done)))))))))))) (.one 5 (.alt (.one 3 (.one 4 (.one 6 (.one 7 (.one 8 (.one 9 (.one 10 (.one 11 (.one 12 (.one 13 (.done))))))))))) (.one 6 (.one 3 (.one 4 (.one 7 (.one 8 (.one 9 (.one 10 (.one 11 (.one 12 (.one 13 (.done))))))))))))))) (.alt (.one 3 (.one 1 (.one 4 (.one 5 (.one 6 (.one 7 (.one 8 (.one 9 (.one 10 (.one 11 (.one 12 (.one 13 (.done))))))))))))) (.one 5 (.alt (.one 1 (.alt (.one 3 (.one 4 (.one 6 (.one 7 (.one 8 (.one 9 (.one 10 (.one 11 (.one 12 (.one 13 (.done))))))))))) (.one 6 (.one 3 (.one 4 (.one 7 (.one 8 (.one 9 (.one 10 (.one 11 (.one 12 (.one 13 (.done))))))))))))) (.alt (.one 3 (.one 1 (.one 4 (.one 6 (.one 7 (.one 8 (.one 9 (.one 10 (.one 11 (.one 12 (.one 13 (.done)))))))))))) (.one 6 (.alt (.one 1 (.one 3 (.one 4 (.one 7 (.one 8 (.one 9 (.one 10 (.one 11 (.one 12 (.one 13 (.done))))))))))) (.one 3 (.one 1 (.one 4 (.one 7 (.one 8 (.one 9 (.one 10 (.one 11 (.one 12 (.one 13 (.done))))))))))))))))))) (.alt (.one 3 (.one 0 (.one 1 (.one 4 (.one 5 (.one 6 (.one 7 (.one 8 (.one 9 (.one 10 (.one 11 (.one 12 (.one 13 (.done)))))))))))))) (.one 5 (.alt (.one 0 (.alt (.one 1 (.alt (.one 3 (.one 4 (.one 6 (.one 7 (.one 8 (.one 9 (.one 10 (.one 11 (.one 12 (.one 13 (.done))))))))))) (.one 6 (.one 3 (.one 4 (.one 7 (.one 8 (.one 9 (.one 10 (.one 11 (.one 12 (.one 13 (.done))))))))))))) (.alt (.one 3 (.one 1 (.one 4 (.one 6 (.one 7 (.one 8 (.one 9 (.one 10 (.one 11 (.one 12 (.one 13 (.done)))))))))))) (.one 6 (.alt (.one 1 (.one 3 (.one 4 (.one 7 (.one 8 (.one 9 (.one 10 (.one 11 (.one 12 (.one 13 (.done))))))))))) (.one 3 (.one 1 (.one 4 (.one 7 (.one 8 (.one 9 (.one 10 (.one 11 (.one 12 (.one 13 (.done)))))))))))))))) (.alt (.one 3 (.one 0 (.one 1 (.one 4 (.one 6 (.one 7 (.one 8 (.one 9 (.one 10 (.one 11 (.one 12 (.one 13 (.done))))))))))))) (.one 6 (.alt (.one 0 (.alt (.one 1 (.one 3 (.one 4 (.one 7 (.one 8 (.one 9 (.one 10 (.one 11 (.one 12 (.one 13 (.done))))))))))) (.one 3 (.one 1 (.one 4 (.one 7 (.one 8 (.one 9 (.one 10 (.one 11 (.one 12 (.one 13 (.done))))))))))))) (.one 3 (.one 0 (.one 1 (.one 4 (.one 7 (.one 8 (.one 9 (.one 10 (.one 11 (.one 12 (.one 13 (.done))))))))))))))))))))],nr:=some [.r 0,.g 53 1 8,.g 53 2 3,.g 53 3 3,.g 53 4 5,.g 53 5 4,.g 53 6 5,.g 53 7 4],ak:=[0],av:=[(1,[31,32]),(2,[77]),(8,[77])],sh:=[.a [0,8,3,3,5,4,5,4,0]] }
def QzL:Ann:={ nr:=some [],av:=[(1,[20])],sh:=[.a [0,0,1,0,0,1,0,0],.z 9] }
def Qxp:Ann:={ lp:=[(3,⟨[1,2,5,6],[.s 2 0,.s 5 2],[5],[.s 5 2]⟩)],sh:=[.z 2] }
def Qyk:Ann:={ lp:=[(5,⟨[1,5,13,14,15],[.s 5 1],[5],[.s 5 1]⟩)],sh:=[.z 1] }
def Qx8:Ann:={ lp:=[(3,⟨[1,3,8,9,10],[.s 1 0,.s 3 8],[3],[.s 3 8]⟩)],sh:=[.z 8] }
def QBy:Ann:={ jn:=[(2,(20,11,20))],sh:=[.a [0,8,3,3,5,4,5,4,0],.n] }
def Qyl:Ann:={ nr:=some [.r 0,.s 23 3],ak:=[0],av:=[(3,[77]),(5,[77])],lp:=[(3,⟨[0,3,4],[.s 0 0,.s 3 3],[0,3],[.s 0 0,.s 3 3]⟩)],sh:=[.z 3] }
def QAO:Ann:={ ot:=[(5,.one 1 (.one 4 (.alt (.one 0 (.one 2 (.alt (.one 3 (.one 5 (.one 6 (.one 7 (.one 8 (.one 9 (.done))))))) (.one 5 (.one 3 (.one 6 (.one 7 (.one 8 (.one 9 (.done)))))))))) (.one 2 (.alt (.one 0 (.alt (.one 3 (.one 5 (.one 6 (.one 7 (.one 8 (.one 9 (.done))))))) (.one 5 (.one 3 (.one 6 (.one 7 (.one 8 (.one 9 (.done))))))))) (.alt (.one 3 (.alt (.one 0 (.one 5 (.one 6 (.one 7 (.one 8 (.one 9 (.done))))))) (.one 5 (.one 0 (.one 6 (.one 7 (.one 8 (.one 9 (.done))))))))) (.one 5 (.one 0 (.one 3 (.one 6 (.one 7 (.one 8 (.one 9 (.done))))))))))))))],nr:=some [.r 0,.g 29 9 2,.g 29 13 3],ak:=[0],av:=[(1,[168]),(3,[77]),(4,[153]),(5,[77])],sh:=[.a [0,0,0,0,0,0,0,0,0,2,0,0,0,3]] }
def QAk:Ann:={ nr:=some [.r 0,.g 45 9 2,.g 45 13 3],ak:=[0],av:=[(1,[77,153]),(4,[77,92]),(6,[77]),(8,[169]),(10,[153])],sh:=[.a [0,0,0,0,0,0,0,0,0,2,0,0,0,3]] }
def QzB:Ann:={ jn:=[(1,(2,3,21))] }
def QAn:Ann:={}
def QtY:Ann:={ jn:=[(1,(2,3,21))] }
def Qqv:Ann:={ jn:=[(4,(43,10,43))],lp:=[(2,⟨[0,3],[],[0],[]⟩)],rt:=⟨[2],[],[],[]⟩ }
def Qth:Ann:={}
def QpR:Ann:={ lp:=[(3,⟨[0,1,2,7,8],[],[7],[]⟩)] }
def QqP:Ann:={ jn:=[(3,(16,9,16)),(6,(42,28,42))],lp:=[(3,⟨[0,1,5,6],[.s 5 1],[5],[.s 5 1]⟩)],sh:=[.z 1] }
def QqI:Ann:={ lp:=[(2,⟨[0,1,5],[],[],[]⟩)],rt:=⟨[4],[],[],[]⟩ }
def QqO:Ann:={ jn:=[(4,(22,12,22))],lp:=[(2,⟨[0,1,5],[],[],[]⟩)],rt:=⟨[4],[],[],[]⟩ }
def QpG:Ann:={ lp:=[(2,⟨[0,1,5],[],[],[]⟩)],rt:=⟨[4],[],[],[]⟩ }
def QsB:Ann:={ jn:=[(1,(2,3,26))] }
def QtH:Ann:={ jn:=[(1,(5,6,19)),(3,(19,20,30))] }
def QsO:Ann:={ sh:=[.z 2] }
def Qqj:Ann:={ lp:=[(2,⟨[0,1,7,8],[],[],[]⟩)],rt:=⟨[4],[],[],[]⟩ }
def QsW:Ann:={}
def Qtu:Ann:={ ot:=[(2,.one 0 (.one 5 (.alt (.one 1 (.alt (.one 2 (.alt (.one 3 (.one 4 (.one 6 (.one 7 (.one 8 (.one 9 (.one 10 (.one 11 (.one 12 (.done)))))))))) (.one 6 (.one 3 (.one 4 (.one 7 (.one 8 (.one 9 (.one 10 (.one 11 (.one 12 (.done)))))))))))) (.one 6 (.one 2 (.one 3 (.one 4 (.one 7 (.one 8 (.one 9 (.one 10 (.one 11 (.one 12 (.done))))))))))))) (.one 6 (.alt (.one 1 (.one 2 (.one 3 (.one 4 (.one 7 (.one 8 (.one 9 (.one 10 (.one 11 (.one 12 (.done))))))))))) (.one 7 (.alt (.one 1 (.one 2 (.one 3 (.one 4 (.one 8 (.one 9 (.one 10 (.one 11 (.one 12 (.done)))))))))) (.one 8 (.one 9 (.one 1 (.one 2 (.one 3 (.one 4 (.one 10 (.one 11 (.one 12 (.done))))))))))))))))),(3,.one 0 (.one 4 (.alt (.one 1 (.alt (.one 2 (.alt (.one 3 (.one 5 (.one 6 (.one 7 (.one 8 (.one 9 (.done))))))) (.one 5 (.one 3 (.one 6 (.one 7 (.one 8 (.one 9 (.done))))))))) (.one 5 (.one 2 (.one 3 (.one 6 (.one 7 (.one 8 (.one 9 (.done)))))))))) (.one 5 (.alt (.one 1 (.one 2 (.one 3 (.one 6 (.one 7 (.one 8 (.one 9 (.done)))))))) (.one 6 (.alt (.one 1 (.one 2 (.one 3 (.one 7 (.one 8 (.one 9 (.done))))))) (.one 7 (.alt (.one 1 (.one 2 (.one 3 (.one 8 (.one 9 (.done)))))) (.one 8 (.one 1 (.one 2 (.one 3 (.one 9 (.done))))))))))))))),(4,.one 0 (.one 1 (.one 5 (.alt (.one 2 (.alt (.one 3 (.alt (.one 4 (.one 6 (.one 7 (.one 8 (.one 9 (.one 10 (.one 11 (.one 12 (.one 13 (.one 14 (.done))))))))))) (.one 6 (.one 4 (.one 7 (.one 8 (.one 9 (.one 10 (.one 11 (.one 12 (.one 13 (.one 14 (.done))))))))))))) (.one 6 (.one 3 (.one 4 (.one 7 (.one 8 (.one 9 (.one 10 (.one 11 (.one 12 (.one 13 (.one 14 (.done)))))))))))))) (.one 6 (.alt (.one 2 (.one 3 (.one 4 (.one 7 (.one 8 (.one 9 (.one 10 (.one 11 (.one 12 (.one 13 (.one 14 (.done)))))))))))) (.one 7 (.alt (.one 2 (.one 3 (.one 4 (.one 8 (.one 9 (.one 10 (.one 11 (.one 12 (.one 13 (.one 14 (.done))))))))))) (.one 8 (.one 2 (.one 3 (.one 4 (.one 9 (.one 10 (.one 11 (.one 12 (.one 13 (.one 14 (.done)))))))))))))))))))],ak:=[0] }
def Qs4:Ann:={ ord:=[(1,[0,1,2,3,4,6,7,9,10,11,13,14,15,17,18,19,21,22,23,25,26,27,29,30,5,8,12,16,20,24,28,31,32])],eb:=[(1,[5,12,16,20,24,28])],sh:=[.a [0,8,3,3,5,4,5,4,0]] }
def Qtg:Ann:={ sh:=[.a [0,8,3,3,5,4,5,4,0],.n] }
def QtK:Ann:={ nr:=some [.r 0,.g 25 2 1,.g 25 5 1],ak:=[0],av:=[(1,[77]),(2,[77,215,216])],sh:=[.a [0,0,1,0,0,1,0,0]] }
def QtG:Ann:={ ak:=[0,1],av:=[(1,[77])] }
def Qtv:Ann:={ ak:=[0],av:=[(1,[153])] }
def QtA:Ann:={ ak:=[0],av:=[(1,[216]),(2,[77]),(4,[154]),(6,[153])] }
def Qtz:Ann:={}
def Qsx:Ann:={}
def QpO:Ann:={ lp:=[(3,⟨[1,5,9,10,11],[.s 9 1],[5],[]⟩)] }
def Qm3:Ann:={ lp:=[(5,⟨[1,2,5,13],[.s 2 0,.s 5 1],[5],[.s 5 1]⟩),(8,⟨[1,2,5,6,7,13],[.s 2 0,.s 5 1],[1,2,5,13],[.s 2 0,.s 5 1]⟩)],sh:=[.z 1] }
def Qtp:Ann:={}
def Qty:Ann:={ ot:=[(5,.one 1 (.alt (.one 0 (.alt (.one 2 (.one 3 (.one 4 (.one 5 (.one 6 (.done)))))) (.one 3 (.alt (.one 2 (.one 4 (.one 5 (.one 6 (.done))))) (.one 4 (.one 2 (.one 5 (.one 6 (.done))))))))) (.one 3 (.alt (.one 0 (.alt (.one 2 (.one 4 (.one 5 (.one 6 (.done))))) (.one 4 (.one 2 (.one 5 (.one 6 (.done))))))) (.one 4 (.one 0 (.one 2 (.one 5 (.one 6 (.done))))))))))],sh:=[.z 5,.n] }
def Qqx:Ann:={ jn:=[(3,(21,15,21))],lp:=[(6,⟨[6,7,8],[.s 6 3],[6],[.s 6 3]⟩)],sh:=[.z 3,.n] }
def Qt1:Ann:={ ot:=[(1,.one 1 (.alt (.one 0 (.alt (.one 2 (.one 3 (.one 4 (.one 5 (.one 6 (.done)))))) (.one 3 (.alt (.one 2 (.one 4 (.one 5 (.one 6 (.done))))) (.one 4 (.one 2 (.one 5 (.one 6 (.done))))))))) (.one 3 (.alt (.one 0 (.alt (.one 2 (.one 4 (.one 5 (.one 6 (.done))))) (.one 4 (.one 2 (.one 5 (.one 6 (.done))))))) (.one 4 (.one 0 (.one 2 (.one 5 (.one 6 (.done))))))))))],sh:=[.z 4,.n] }
def QpU:Ann:={ lp:=[(4,⟨[2,3,5,6,7],[.s 2 0,.s 3 0,.s 5 2,.s 6 8],[5],[.s 5 2]⟩)],sh:=[.z 2] }
def QtN:Ann:={}
def QtE:Ann:={ ac:=[(2,0),(3,0)],sh:=[.z 1] }
def Qo4:Ann:={ lp:=[(3,⟨[0,3,4],[],[3],[]⟩)] }
def QsF:Ann:={ ak:=[0],av:=[(1,[77,225])] }
def Qq2:Ann:={ nr:=some [.r 0,.s 57 3],ak:=[0],av:=[(3,[77]),(5,[77]),(9,[77]),(10,[77]),(12,[153]),(14,[153])],lp:=[(3,⟨[0,3,4],[.s 0 0,.s 3 3],[0,3],[.s 0 0,.s 3 3]⟩)],sh:=[.z 3] }
def Qts:Ann:={ jn:=[(1,(2,3,26))] }
def Qqo:Ann:={ lp:=[(3,⟨[3,6,7,8],[],[3],[]⟩)] }
def Qqn:Ann:={ lp:=[(2,⟨[0,1,7,8],[],[],[]⟩)],rt:=⟨[4],[],[],[]⟩ }
def Qso:Ann:={ jn:=[(1,(2,3,26))] }
def Qo1:Ann:={ lp:=[(3,⟨[0,3,4],[],[3],[]⟩)] }
def QpY:Ann:={ ot:=[(6,.one 1 (.one 2 (.one 3 (.one 5 (.one 8 (.one 9 (.one 10 (.alt (.one 0 (.alt (.one 4 (.one 6 (.one 7 (.one 11 (.one 12 (.done)))))) (.one 6 (.one 4 (.one 7 (.one 11 (.one 12 (.done)))))))) (.one 6 (.one 0 (.one 4 (.one 7 (.one 11 (.one 12 (.done)))))))))))))))],jn:=[(2,(17,6,17)),(4,(31,20,31))],lp:=[(2,⟨[0,1,5],[],[0,1,5],[]⟩)],sh:=[.z 1] }
def Qtt:Ann:={}
def QpE:Ann:={ lp:=[(2,⟨[0,1,5],[],[],[]⟩)],rt:=⟨[4],[],[],[]⟩ }
def QqT:Ann:={ ord:=[(5,[0,1,2,3,4,5,6,7,8,9,10,11,13,14,15,16,17,12,18,19,20,21])],eb:=[(5,[18])],lp:=[(3,⟨[0,3,4],[.s 3 3],[3],[.s 3 3]⟩)],sh:=[.z 3] }
def Qtx:Ann:={ av:=[(10,[254])],sh:=[.a [0,8,3,3,5,4,5,4,0],.n] }
def QpN:Ann:={ ot:=[(7,.one 0 (.one 1 (.one 2 (.one 3 (.one 4 (.one 6 (.one 7 (.one 12 (.alt (.one 5 (.alt (.one 8 (.alt (.one 9 (.one 10 (.one 11 (.one 13 (.one 14 (.one 15 (.one 16 (.done)))))))) (.one 10 (.alt (.one 9 (.one 11 (.one 13 (.one 14 (.one 15 (.one 16 (.done))))))) (.one 11 (.one 13 (.one 9 (.one 14 (.one 15 (.one 16 (.done))))))))))) (.one 10 (.alt (.one 8 (.alt (.one 9 (.one 11 (.one 13 (.one 14 (.one 15 (.one 16 (.done))))))) (.one 11 (.one 13 (.one 9 (.one 14 (.one 15 (.one 16 (.done))))))))) (.one 11 (.one 13 (.one 8 (.one 9 (.one 14 (.one 15 (.one 16 (.done)))))))))))) (.alt (.one 8 (.alt (.one 5 (.alt (.one 9 (.one 10 (.one 11 (.one 13 (.one 14 (.one 15 (.one 16 (.done)))))))) (.one 10 (.alt (.one 9 (.one 11 (.one 13 (.one 14 (.one 15 (.one 16 (.done))))))) (.one 11 (.one 13 (.one 9 (.one 14 (.one 15 (.one 16 (.done))))))))))) (.one 10 (.alt (.one 5 (.alt (.one 9 (.one 11 (.one 13 (.one 14 (.one 15 (.one 16 (.done))))))) (.one 11 (.one 13 (.one 9 (.one 14 (.one 15 (.one 16 (.done))))))))) (.one 11 (.one 13 (.one 5 (.one 9 (.one 14 (.one 15 (.one 16 (.done)))))))))))) (.one 10 (.alt (.one 5 (.alt (.one 8 (.alt (.one 9 (.one 11 (.one 13 (.one 14 (.one 15 (.one 16 (.done))))))) (.one 11 (.one 13 (.one 9 (.one 14 (.one 15 (.one 16 (.done))))))))) (.one 11 (.one 13 (.one 8 (.one 9 (.one 14 (.one 15 (.one 16 (.done)))))))))) (.alt (.one 8 (.alt (.one 5 (.alt (.one 9 (.one 11 (.one 13 (.one 14 (.one 15 (.one 16 (.done))))))) (.one 11 (.one 13 (.one 9 (.one 14 (.one 15 (.one 16 (.done))))))))) (.one 11 (.one 13 (.one 5 (.one 9 (.one 14 (.one 15 (.one 16 (.done)))))))))) (.one 11 (.one 13 (.alt (.one 5 (.one 8 (.one 9 (.one 14 (.one 15 (.one 16 (.done))))))) (.one 8 (.one 5 (.one 9 (.one 14 (.one 15 (.one 16 (.done)))))))))))))))))))))))],eb:=[(7,[47])],av:=[(8,[254])],jn:=[(5,(44,30,44))],lp:=[(5,⟨[1,3,4,8,10,12,13],[.s 4 0,.s 8 0,.s 10 0,.c 2 1 8,.c 2 2 3,.c 2 3 3,.c 2 4 5,.c 2 5 4,.c 2 6 5,.c 2 7 4],[1,3,4,8,10,12,13],[.s 4 0,.s 8 0,.s 10 0,.c 2 1 8,.c 2 2 3,.c 2 3 3,.c 2 4 5,.c 2 5 4,.c 2 6 5,.c 2 7 4]⟩)],sh:=[.a [0,8,3,3,5,4,5,4,0],.n] }
def Qst:Ann:={ av:=[(13,[254])],jn:=[(3,(34,19,34))],sh:=[.a [0,8,3,3,5,4,5,4,0],.n] }
def Qtk:Ann:={ ot:=[(9,.one 0 (.one 1 (.one 2 (.one 3 (.one 4 (.one 5 (.one 6 (.one 7 (.one 8 (.one 9 (.one 10 (.one 11 (.one 12 (.one 13 (.one 14 (.one 15 (.one 16 (.one 17 (.alt (.one 18 (.alt (.one 19 (.one 20 (.one 21 (.one 22 (.one 23 (.one 24 (.one 25 (.done)))))))) (.one 23 (.one 19 (.one 20 (.one 21 (.one 22 (.one 24 (.one 25 (.done)))))))))) (.one 23 (.one 18 (.one 19 (.one 20 (.one 21 (.one 22 (.one 24 (.one 25 (.done))))))))))))))))))))))))))))],av:=[(9,[261]),(10,[254])],jn:=[(3,(33,23,33))],sh:=[.a [0,8,3,3,5,4,5,4,0],.n] }
def QsJ:Ann:={ ot:=[(9,.one 0 (.one 1 (.one 2 (.one 3 (.one 4 (.one 5 (.one 6 (.one 7 (.one 8 (.alt (.one 9 (.one 10 (.one 11 (.one 12 (.one 13 (.one 14 (.one 15 (.done)))))))) (.one 13 (.one 9 (.one 10 (.one 11 (.one 12 (.one 14 (.one 15 (.done))))))))))))))))))],av:=[(6,[261]),(9,[261]),(10,[254]),(11,[254])],jn:=[(3,(50,27,50))],sh:=[.a [0,8,3,3,5,4,5,4,0],.n] }
def Qsg:Ann:={ ot:=[(6,.one 0 (.one 1 (.one 2 (.one 3 (.one 4 (.one 5 (.one 6 (.one 7 (.alt (.one 8 (.one 9 (.one 10 (.one 11 (.one 12 (.one 13 (.one 14 (.done)))))))) (.one 12 (.one 8 (.one 9 (.one 10 (.one 11 (.one 13 (.one 14 (.done)))))))))))))))))],av:=[(7,[254]),(11,[254])],jn:=[(2,(21,15,21))],sh:=[.a [0,8,3,3,5,4,5,4,0],.n] }
def QtQ:Ann:={ av:=[(5,[254])],jn:=[(2,(17,9,17))],sh:=[.a [0,8,3,3,5,4,5,4,0],.n] }
def Qpm:Ann:={ nr:=some [.r 0,.s 26 1],ak:=[0],av:=[(5,[80])],lp:=[(3,⟨[0,2,3,9,10],[.s 0 0,.s 9 1],[0,9],[.s 0 0,.s 9 1]⟩)],sh:=[.z 1] }
def Qs0:Ann:={ ak:=[0],av:=[(1,[77]),(2,[77])] }
def QtU:Ann:={ jn:=[(1,(2,3,49))] }
def Qt2:Ann:={ jn:=[(1,(4,5,13))] }
def Qs2:Ann:={}
def QsZ:Ann:={ jn:=[(1,(5,6,14))] }
def Qqw:Ann:={ lp:=[(3,⟨[1,3,4],[.s 1 0,.s 3 8],[3],[.s 3 8]⟩)],sh:=[.z 8] }
def Qta:Ann:={}
def Qni:Ann:={ lp:=[(3,⟨[0,3,9,10,11],[],[0,3],[]⟩),(11,⟨[6,25,26,27],[.s 6 1],[6],[.s 6 1]⟩)],sh:=[.z 1] }
def Qtw:Ann:={ ak:=[0],av:=[(1,[77])] }
def QtJ:Ann:={}
def Qsf:Ann:={}
def QtX:Ann:={}
def Qqs:Ann:={ ot:=[(4,.one 1 (.one 2 (.one 3 (.one 8 (.one 9 (.one 10 (.alt (.one 0 (.alt (.one 4 (.one 5 (.one 6 (.one 7 (.one 11 (.one 12 (.done))))))) (.one 5 (.alt (.one 4 (.one 6 (.one 7 (.one 11 (.one 12 (.done)))))) (.one 6 (.one 4 (.one 7 (.one 11 (.one 12 (.done)))))))))) (.one 5 (.alt (.one 0 (.alt (.one 4 (.one 6 (.one 7 (.one 11 (.one 12 (.done)))))) (.one 6 (.one 4 (.one 7 (.one 11 (.one 12 (.done)))))))) (.one 6 (.one 0 (.one 4 (.one 7 (.one 11 (.one 12 (.done))))))))))))))))],jn:=[(2,(23,8,23))],lp:=[(2,⟨[0,3,6],[.s 3 0],[0,3,6],[.s 3 0]⟩)],sh:=[.z 8,.n] }
def QpS:Ann:={ ot:=[(4,.one 0 (.one 1 (.one 2 (.one 4 (.one 8 (.one 9 (.one 10 (.alt (.one 3 (.one 5 (.one 6 (.one 7 (.one 11 (.one 12 (.one 13 (.done)))))))) (.one 5 (.one 3 (.one 6 (.one 7 (.one 11 (.one 12 (.one 13 (.done))))))))))))))))],jn:=[(2,(21,8,21))],lp:=[(2,⟨[0,3,6],[.s 3 0],[0,3,6],[.s 3 0]⟩)],sh:=[.z 3,.n] }
def Qqy:Ann:={ jn:=[(3,(34,16,34))],lp:=[(6,⟨[3,6,7,8],[.s 3 0,.s 6 3],[6],[.s 6 3]⟩)],sh:=[.z 3,.n] }
def Qtn:Ann:={ jn:=[(1,(19,8,19))],sh:=[.a [0,8,3,3,5,4,5,4,0],.n] }
def Qpk:Ann:={ ot:=[(9,.one 1 (.one 2 (.one 3 (.one 8 (.one 9 (.one 10 (.alt (.one 0 (.alt (.one 4 (.one 5 (.one 6 (.one 7 (.one 11 (.one 12 (.done))))))) (.one 5 (.alt (.one 4 (.one 6 (.one 7 (.one 11 (.one 12 (.done)))))) (.one 6 (.one 4 (.one 7 (.one 11 (.one 12 (.done)))))))))) (.one 5 (.alt (.one 0 (.alt (.one 4 (.one 6 (.one 7 (.one 11 (.one 12 (.done)))))) (.one 6 (.one 4 (.one 7 (.one 11 (.one 12 (.done)))))))) (.one 6 (.one 0 (.one 4 (.one 7 (.one 11 (.one 12 (.done))))))))))))))))],jn:=[(6,(7,19,40)),(10,(67,62,67))],lp:=[(4,⟨[0,3,6,7,8],[.s 3 0],[0,3,6,7],[.s 3 0]⟩)],sh:=[.z 5,.n] }
def QqK:Ann:={ lp:=[(2,⟨[0,1,5],[],[],[]⟩)],rt:=⟨[4],[],[],[]⟩ }
def Qs8:Ann:={}
def Qo8:Ann:={ jn:=[(5,(44,13,44))],lp:=[(3,⟨[0,1,5,6],[],[0,5],[]⟩)] }
def Qsr:Ann:={ sh:=[.a [0,8,3,3,5,4,5,4,0],.n] }
def Qsh:Ann:={ jn:=[(3,(24,18,24)),(6,(11,31,49)),(8,(60,54,60))],sh:=[.z 5,.n] }
def Qsw:Ann:={ sh:=[.a [0,8,3,3,5,4,5,4,0],.n] }
def QtM:Ann:={ jn:=[(1,(12,5,12))] }
def Qsi:Ann:={ jn:=[(1,(12,5,12))] }
def Qq0:Ann:={ jn:=[(6,(36,20,36)),(10,(42,43,53))],lp:=[(4,⟨[1,2,3,7],[.s 3 0],[2,3],[.s 3 0]⟩)],rt:=⟨[6],[],[],[]⟩ }
def QsM:Ann:={ sh:=[.z 2] }
def QpT:Ann:={ jn:=[(4,(33,16,33))],lp:=[(2,⟨[0,1,2,9,10,11],[],[],[]⟩)],rt:=⟨[6],[],[],[]⟩ }
def Qt0:Ann:={ jn:=[(1,(2,3,18))] }
def Qtc:Ann:={ jn:=[(1,(5,6,14)),(5,(21,22,35)),(9,(45,46,58))] }
def QsI:Ann:={}
def Qql:Ann:={ jn:=[(5,(44,13,44))],lp:=[(3,⟨[0,1,5,6],[],[0,5],[]⟩)] }
def QsX:Ann:={}
def Qpt:Ann:={ lp:=[(2,⟨[0,1,5],[],[],[]⟩)],rt:=⟨[4],[],[],[]⟩ }
def QnD:Ann:={ jn:=[(4,(26,11,26))],lp:=[(2,⟨[0,3],[],[0],[]⟩),(7,⟨[0,3,4],[],[0,3],[]⟩)],rt:=⟨[2],[],[],[]⟩ }
def Qm4:Ann:={ ot:=[(8,.one 1 (.one 2 (.one 3 (.one 5 (.one 6 (.one 11 (.one 12 (.one 13 (.alt (.one 0 (.alt (.one 4 (.one 7 (.one 8 (.one 9 (.one 10 (.one 14 (.one 15 (.done)))))))) (.one 7 (.alt (.one 4 (.one 8 (.one 9 (.one 10 (.one 14 (.one 15 (.done))))))) (.one 8 (.alt (.one 4 (.one 9 (.one 10 (.one 14 (.one 15 (.done)))))) (.one 9 (.one 4 (.one 10 (.one 14 (.one 15 (.done)))))))))))) (.one 7 (.alt (.one 0 (.alt (.one 4 (.one 8 (.one 9 (.one 10 (.one 14 (.one 15 (.done))))))) (.one 8 (.alt (.one 4 (.one 9 (.one 10 (.one 14 (.one 15 (.done)))))) (.one 9 (.one 4 (.one 10 (.one 14 (.one 15 (.done)))))))))) (.one 8 (.alt (.one 0 (.alt (.one 4 (.one 9 (.one 10 (.one 14 (.one 15 (.done)))))) (.one 9 (.one 4 (.one 10 (.one 14 (.one 15 (.done)))))))) (.one 9 (.one 0 (.one 4 (.one 10 (.one 14 (.one 15 (.done))))))))))))))))))))],fz:=[(8,[3])],jn:=[(6,(30,15,30))],lp:=[(3,⟨[0,3,4],[.s 3 3],[3],[.s 3 3]⟩),(6,⟨[0,3,4,5],[.s 3 3],[0,3,4,5],[.s 3 3]⟩)],sh:=[.z 3] }
def Qsp:Ann:={ jn:=[(1,(4,5,13))] }
def Qma:Ann:={ jn:=[(9,(43,31,43))],lp:=[(4,⟨[0,1,5,6,7],[.s 5 1],[0,1,5,6],[.s 5 1]⟩),(13,⟨[0,1,5,6,8,9],[.s 5 1],[5,8],[.s 5 1]⟩),(18,⟨[5,8,10],[.s 5 1],[5],[.s 5 1]⟩)],rt:=⟨[4],[.s 4 1],[],[]⟩,sh:=[.z 1] }
def QsS:Ann:={ jn:=[(1,(2,3,49))] }
def QtR:Ann:={ jn:=[(1,(19,7,19))] }
def Qsy:Ann:={}
def QpM:Ann:={ jn:=[(4,(37,14,37))],lp:=[(2,⟨[0,1,2,7],[],[],[]⟩)],rt:=⟨[6],[],[],[]⟩ }
def QtS:Ann:={ jn:=[(1,(2,3,18))] }
def Qto:Ann:={ jn:=[(5,(10,11,17))] }
noncomputable def T:Tld:={ P:=Tryz.prog,ann:=[(4,An4),(5,An5),(8,An8),(20,QxQ),(21,QxM),(22,Qwp),(23,QBr),(24,QwL),(25,Qyi),(26,Qy7),(27,Qz5),(28,QxP),(29,QyQ),(30,Qxo),(31,QA6),(32,Qv4),(33,Qz2),(34,QwC),(43,Qy8),(44,Qxf),(45,QvI),(46,Qvf),(47,QuH),(48,QxW),(49,QxO),(50,Qry),(51,QxX),(64,QzG),(77,Qzy),(78,Qw6),(79,QzY),(80,QAB),(81,An81),(82,QyS),(83,QwR),(84,Qwm),(85,Qzm),(86,QzL),(87,Qxp),(88,Qyk),(89,Qx8),(90,QBy),(91,Qyl),(92,QAO),(93,QAk),(94,QzB),(98,QAn),(102,QtY),(103,Qqv),(104,Qth),(105,QpR),(106,QqP),(107,QqI),(108,QqO),(109,QpG),(110,QsB),(111,QtH),(112,QsO),(138,Qqj),(139,QsW),(149,Qtu),(150,Qs4),(151,Qtg),(152,QtK),(153,QtG),(154,Qtv),(155,QtA),(156,Qtz),(157,Qsx),(158,QpO),(159,Qm3),(160,Qtp),(161,Qty),(162,Qqx),(163,Qt1),(164,QpU),(165,QtN),(166,QtE),(167,Qo4),(168,QsF),(169,Qq2),(170,Qts),(171,Qqo),(172,Qqn),(173,Qso),(174,Qo1),(175,QpY),(176,Qtt),(177,QpE),(207,QqT),(208,Qtx),(209,QpN),(210,Qst),(211,Qtk),(212,QsJ),(213,Qsg),(214,QtQ),(215,Qpm),(216,Qs0),(217,QtU),(218,Qt2),(219,Qs2),(220,QsZ),(221,Qqw),(222,Qta),(223,Qni),(225,Qtw),(226,QtJ),(227,Qsf),(228,QtX),(251,Qqs),(252,QpS),(253,Qqy),(254,Qtn),(255,Qpk),(256,QqK),(257,Qs8),(258,Qo8),(259,Qsr),(260,Qsh),(261,Qsw),(262,QtM),(263,Qsi),(264,Qq0),(265,QsM),(266,QpT),(267,Qt0),(268,Qtc),(270,QsI),(278,Qql),(279,QsX),(280,Qpt),(281,QnD),(282,Qm4),(283,Qsp),(284,Qma),(285,QsS),(291,QtR),(292,Qsy),(293,QpM),(294,QtS),(296,Qto)],xt:=xt,st:=fun g=>Nat.beq g 66,qt:=fun g=>Nat.beq g 224,pz:=[(150,[.a [0,8,3,3,5,4,5,4,0]])],vt:=fun g=>Nat.beq g 254||Nat.beq g 261,mt:=fun _ _ _=>none }
theorem TP:T.P=Tryz.prog:=_root_.id rfl
theorem TZ:T.pz=[(150,[.a [0,8,3,3,5,4,5,4,0]])]:=_root_.id rfl
theorem QQW:decide ((0:Int)≤33)=true:=_root_.id rfl
theorem QQ4:decide ((0:Int)≤47)=true:=_root_.id rfl
def eY:=aI evT<|aI QHM<|aI @QR9<|aI @Qlp<|@Vz
def eZ:=aI evB<|aI evT<|aI tys<|aI QHM<|aI TP<|aI TZ<|aI (@QIP T)<|aI (@QJZ T)<|aI (@QIf T)<|aI QQW<|aI QQ4<|aI @Vz<|@QKk T
theorem QiB(n:Nat)(x:Int):CP T (n+1) 269 [.nil,.i .i64 x]=(Zk x).map fun r=>.own 1 (r.map Qi):=by rw[QOG T n 269 _ (by kernel_rfl)];rfl
theorem QO2:cI=Qi:=_root_.id rfl
theorem QFU(xs:List Int):Qcd (xs.map Qi)=some xs:=Qrj xs
theorem QK8:T.st 66=true:=by kernel_rfl
theorem QD7:T.st 224=false:=by kernel_rfl
theorem QFd:T.qt 224=true:=by kernel_rfl
theorem QMj:T.st 20=false:=by kernel_rfl
theorem QJ7:T.qt 20=false:=by kernel_rfl
theorem QI6:T.wt 20=true:=by kernel_rfl
theorem QIE:T.vt 20=false:=by kernel_rfl
theorem QHm:T.st 27=false:=by kernel_rfl
theorem QHE:T.qt 27=false:=by kernel_rfl
theorem QLs:T.wt 27=true:=by kernel_rfl
theorem QJh:T.vt 27=false:=by kernel_rfl
theorem QJn:T.st 30=false:=by kernel_rfl
theorem QJF:T.qt 30=false:=by kernel_rfl
theorem QNm:T.wt 30=true:=by kernel_rfl
theorem QNa:T.vt 30=false:=by kernel_rfl
theorem QJO:T.st 31=false:=by kernel_rfl
theorem QI1:T.qt 31=false:=by kernel_rfl
theorem QL0:T.wt 31=true:=by kernel_rfl
theorem QMa:T.vt 31=false:=by kernel_rfl
theorem QMl:T.st 32=false:=by kernel_rfl
theorem QGL:T.qt 32=false:=by kernel_rfl
theorem QNs:T.wt 32=true:=by kernel_rfl
theorem QNn:T.vt 32=false:=by kernel_rfl
theorem QK6:T.st 77=false:=by kernel_rfl
theorem QKQ:T.qt 77=false:=by kernel_rfl
theorem QL4:T.wt 77=true:=by kernel_rfl
theorem QIq:T.vt 77=false:=by kernel_rfl
theorem QKA:T.st 79=false:=by kernel_rfl
theorem QIC:T.qt 79=false:=by kernel_rfl
theorem QKD:T.wt 79=true:=by kernel_rfl
theorem QH5:T.vt 79=false:=by kernel_rfl
theorem QNT:T.st 80=false:=by kernel_rfl
theorem QG3:T.qt 80=false:=by kernel_rfl
theorem QGw:T.wt 80=true:=by kernel_rfl
theorem QNc:T.vt 80=false:=by kernel_rfl
theorem QNY:T.st 81=false:=by kernel_rfl
theorem QHU:T.qt 81=false:=by kernel_rfl
theorem QKs:T.wt 81=true:=by kernel_rfl
theorem QNF:T.vt 81=false:=by kernel_rfl
theorem QLY:T.st 85=false:=by kernel_rfl
theorem QJy:T.qt 85=false:=by kernel_rfl
theorem QNR:T.wt 85=true:=by kernel_rfl
theorem QHl:T.vt 85=false:=by kernel_rfl
theorem QId:T.st 86=false:=by kernel_rfl
theorem QL5:T.qt 86=false:=by kernel_rfl
theorem QHf:T.wt 86=true:=by kernel_rfl
theorem QGz:T.vt 86=false:=by kernel_rfl
theorem QKr:T.st 91=false:=by kernel_rfl
theorem QMs:T.qt 91=false:=by kernel_rfl
theorem QNJ:T.wt 91=true:=by kernel_rfl
theorem QIB:T.vt 91=false:=by kernel_rfl
theorem QHB:T.st 92=false:=by kernel_rfl
theorem QKi:T.qt 92=false:=by kernel_rfl
theorem QOf:T.wt 92=true:=by kernel_rfl
theorem QN3:T.vt 92=false:=by kernel_rfl
theorem QIi:T.st 93=false:=by kernel_rfl
theorem QLI:T.qt 93=false:=by kernel_rfl
theorem QGt:T.wt 93=true:=by kernel_rfl
theorem QLP:T.vt 93=false:=by kernel_rfl
theorem QDm:T.st 149=false:=by kernel_rfl
theorem QGl:T.qt 149=false:=by kernel_rfl
theorem QC2:T.wt 149=true:=by kernel_rfl
theorem QDG:T.vt 149=false:=by kernel_rfl
theorem QD1:T.st 152=false:=by kernel_rfl
theorem QFw:T.qt 152=false:=by kernel_rfl
theorem QGn:T.wt 152=true:=by kernel_rfl
theorem QFS:T.vt 152=false:=by kernel_rfl
theorem QER:T.st 153=false:=by kernel_rfl
theorem QFD:T.qt 153=false:=by kernel_rfl
theorem QCQ:T.wt 153=true:=by kernel_rfl
theorem QEN:T.vt 153=false:=by kernel_rfl
theorem QDn:T.st 154=false:=by kernel_rfl
theorem QFO:T.qt 154=false:=by kernel_rfl
theorem QDY:T.wt 154=true:=by kernel_rfl
theorem QEf:T.vt 154=false:=by kernel_rfl
theorem QEb:T.st 155=false:=by kernel_rfl
theorem QFy:T.qt 155=false:=by kernel_rfl
theorem QCV:T.wt 155=true:=by kernel_rfl
theorem QFY:T.vt 155=false:=by kernel_rfl
theorem QDT:T.st 168=false:=by kernel_rfl
theorem QDV:T.qt 168=false:=by kernel_rfl
theorem QGs:T.wt 168=true:=by kernel_rfl
theorem QDe:T.vt 168=false:=by kernel_rfl
theorem QDq:T.st 169=false:=by kernel_rfl
theorem QFJ:T.qt 169=false:=by kernel_rfl
theorem QF5:T.wt 169=true:=by kernel_rfl
theorem QC0:T.vt 169=false:=by kernel_rfl
theorem QEr:T.st 215=false:=by kernel_rfl
theorem QGb:T.qt 215=false:=by kernel_rfl
theorem QDh:T.wt 215=true:=by kernel_rfl
theorem QFE:T.vt 215=false:=by kernel_rfl
theorem QDi:T.st 216=false:=by kernel_rfl
theorem QDw:T.qt 216=false:=by kernel_rfl
theorem QF4:T.wt 216=true:=by kernel_rfl
theorem QGf:T.vt 216=false:=by kernel_rfl
theorem QFC:T.st 225=false:=by kernel_rfl
theorem QFR:T.qt 225=false:=by kernel_rfl
theorem QDL:T.wt 225=true:=by kernel_rfl
theorem QEi:T.vt 225=false:=by kernel_rfl
theorem QDc:T.st 254=false:=by kernel_rfl
theorem QDI:T.qt 254=false:=by kernel_rfl
theorem QEv:T.wt 254=false:=by kernel_rfl
theorem QC7:T.vt 254=true:=by kernel_rfl
theorem QFq:T.st 261=false:=by kernel_rfl
theorem QDo:T.qt 261=false:=by kernel_rfl
theorem QDM:T.wt 261=false:=by kernel_rfl
theorem QEg:T.vt 261=true:=by kernel_rfl
def srt:=aI @QO2<|aI @QFU<|aI @QLM<|aI @QIo<|aI @QKd<|aI @QJc<|aI @QK8<|aI @QD7<|aI @QFd<|aI @QMj<|aI @QJ7<|aI @QI6<|aI @QIE<|aI @QHm<|aI @QHE<|aI @QLs<|aI @QJh<|aI @QJn<|aI @QJF<|aI @QNm<|aI @QNa<|aI @QJO<|aI @QI1<|aI @QL0<|aI @QMa<|aI @QMl<|aI @QGL<|aI @QNs<|aI @QNn<|aI @QK6<|aI @QKQ<|aI @QL4<|aI @QIq<|aI @QKA<|aI @QIC<|aI @QKD<|aI @QH5<|aI @QNT<|aI @QG3<|aI @QGw<|aI @QNc<|aI @QNY<|aI @QHU<|aI @QKs<|aI @QNF<|aI @QLY<|aI @QJy<|aI @QNR<|aI @QHl<|aI @QId<|aI @QL5<|aI @QHf<|aI @QGz<|aI @QKr<|aI @QMs<|aI @QNJ<|aI @QIB<|aI @QHB<|aI @QKi<|aI @QOf<|aI @QN3<|aI @QIi<|aI @QLI<|aI @QGt<|aI @QLP<|aI @QDm<|aI @QGl<|aI @QC2<|aI @QDG<|aI @QD1<|aI @QFw<|aI @QGn<|aI @QFS<|aI @QER<|aI @QFD<|aI @QCQ<|aI @QEN<|aI @QDn<|aI @QFO<|aI @QDY<|aI @QEf<|aI @QEb<|aI @QFy<|aI @QCV<|aI @QFY<|aI @QDT<|aI @QDV<|aI @QGs<|aI @QDe<|aI @QDq<|aI @QFJ<|aI @QF5<|aI @QC0<|aI @QEr<|aI @QGb<|aI @QDh<|aI @QFE<|aI @QDi<|aI @QDw<|aI @QF4<|aI @QGf<|aI @QFC<|aI @QFR<|aI @QDL<|aI @QEi<|aI @QDc<|aI @QDI<|aI @QEv<|aI @QC7<|aI @QFq<|aI @QDo<|aI @QDM @QEg
theorem Aa4:T.at 4=some An4:=by kernel_rfl
theorem Aa5:T.at 5=some An5:=by kernel_rfl
theorem Aa8:T.at 8=some An8:=by kernel_rfl
theorem QG0:T.at 20=some QxQ:=by kernel_rfl
theorem QHo:T.at 21=some QxM:=by kernel_rfl
theorem QNZ:T.at 22=some Qwp:=by kernel_rfl
theorem QP4:T.at 23=some QBr:=by kernel_rfl
theorem QG6:T.at 24=some QwL:=by kernel_rfl
theorem QGW:T.at 25=some Qyi:=by kernel_rfl
theorem QPJ:T.at 26=some Qy7:=by kernel_rfl
theorem QR2:T.at 27=some Qz5:=by kernel_rfl
theorem QGA:T.at 28=some QxP:=by kernel_rfl
theorem QQT:T.at 29=some QyQ:=by kernel_rfl
theorem QJd:T.at 30=some Qxo:=by kernel_rfl
theorem QQ1:T.at 31=some QA6:=by kernel_rfl
theorem QMZ:T.at 32=some Qv4:=by kernel_rfl
theorem QSG:T.at 33=some Qz2:=by kernel_rfl
theorem QLQ:T.at 34=some QwC:=by kernel_rfl
theorem QOk:T.at 43=some Qy8:=by kernel_rfl
theorem QMY:T.at 44=some Qxf:=by kernel_rfl
theorem QNE:T.at 45=some QvI:=by kernel_rfl
theorem QCK:T.at 46=some Qvf:=by kernel_rfl
theorem QDX:T.at 47=some QuH:=by kernel_rfl
theorem QHr:T.at 48=some QxW:=by kernel_rfl
theorem QJq:T.at 49=some QxO:=by kernel_rfl
theorem QAV:T.at 50=some Qry:=by kernel_rfl
theorem QJu:T.at 51=some QxX:=by kernel_rfl
theorem QRg:T.at 64=some QzG:=by kernel_rfl
theorem QQP:T.at 77=some Qzy:=by kernel_rfl
theorem QN6:T.at 78=some Qw6:=by kernel_rfl
theorem QSt:T.at 79=some QzY:=by kernel_rfl
theorem QPR:T.at 80=some QAB:=by kernel_rfl
theorem Qon:T.at 81=some An81:=by kernel_rfl
theorem QPw:T.at 82=some QyS:=by kernel_rfl
theorem QIA:T.at 83=some QwR:=by kernel_rfl
theorem QJC:T.at 84=some Qwm:=by kernel_rfl
theorem QRe:T.at 85=some Qzm:=by kernel_rfl
theorem QOj:T.at 86=some QzL:=by kernel_rfl
theorem QGN:T.at 87=some Qxp:=by kernel_rfl
theorem QIQ:T.at 88=some Qyk:=by kernel_rfl
theorem QLX:T.at 89=some Qx8:=by kernel_rfl
theorem QPD:T.at 90=some QBy:=by kernel_rfl
theorem QMc:T.at 91=some Qyl:=by kernel_rfl
theorem QRN:T.at 92=some QAO:=by kernel_rfl
theorem QRL:T.at 93=some QAk:=by kernel_rfl
theorem QRy:T.at 94=some QzB:=by kernel_rfl
theorem QOZ:T.at 98=some QAn:=by kernel_rfl
theorem QLO:T.at 102=some QtY:=by kernel_rfl
theorem QBQ:T.at 103=some Qqv:=by kernel_rfl
theorem QIR:T.at 104=some Qth:=by kernel_rfl
theorem QCb:T.at 105=some QpR:=by kernel_rfl
theorem QBG:T.at 106=some QqP:=by kernel_rfl
theorem QB8:T.at 107=some QqI:=by kernel_rfl
theorem QB1:T.at 108=some QqO:=by kernel_rfl
theorem QCm:T.at 109=some QpG:=by kernel_rfl
theorem QLJ:T.at 110=some QsB:=by kernel_rfl
theorem QIt:T.at 111=some QtH:=by kernel_rfl
theorem QK7:T.at 112=some QsO:=by kernel_rfl
theorem QBF:T.at 138=some Qqj:=by kernel_rfl
theorem QJ6:T.at 139=some QsW:=by kernel_rfl
theorem QI5:T.at 149=some Qtu:=by kernel_rfl
theorem QGI:T.at 150=some Qs4:=by kernel_rfl
theorem QN5:T.at 151=some Qtg:=by kernel_rfl
theorem QMQ:T.at 152=some QtK:=by kernel_rfl
theorem QL3:T.at 153=some QtG:=by kernel_rfl
theorem QIc:T.at 154=some Qtv:=by kernel_rfl
theorem QLt:T.at 155=some QtA:=by kernel_rfl
theorem QLx:T.at 156=some Qtz:=by kernel_rfl
theorem QGM:T.at 157=some Qsx:=by kernel_rfl
theorem QBK:T.at 158=some QpO:=by kernel_rfl
theorem Qv3:T.at 159=some Qm3:=by kernel_rfl
theorem QJa:T.at 160=some Qtp:=by kernel_rfl
theorem QJL:T.at 161=some Qty:=by kernel_rfl
theorem QCy:T.at 162=some Qqx:=by kernel_rfl
theorem QG8:T.at 163=some Qt1:=by kernel_rfl
theorem QCa:T.at 164=some QpU:=by kernel_rfl
theorem QM6:T.at 165=some QtN:=by kernel_rfl
theorem QKo:T.at 166=some QtE:=by kernel_rfl
theorem QBX:T.at 167=some Qo4:=by kernel_rfl
theorem QKE:T.at 168=some QsF:=by kernel_rfl
theorem QCo:T.at 169=some Qq2:=by kernel_rfl
theorem QLd:T.at 170=some Qts:=by kernel_rfl
theorem QCn:T.at 171=some Qqo:=by kernel_rfl
theorem QBJ:T.at 172=some Qqn:=by kernel_rfl
theorem QIb:T.at 173=some Qso:=by kernel_rfl
theorem QB2:T.at 174=some Qo1:=by kernel_rfl
theorem QBH:T.at 175=some QpY:=by kernel_rfl
theorem QMt:T.at 176=some Qtt:=by kernel_rfl
theorem QBS:T.at 177=some QpE:=by kernel_rfl
theorem QCv:T.at 207=some QqT:=by kernel_rfl
theorem QKz:T.at 208=some Qtx:=by kernel_rfl
theorem QBZ:T.at 209=some QpN:=by kernel_rfl
theorem QLA:T.at 210=some Qst:=by kernel_rfl
theorem QJi:T.at 211=some Qtk:=by kernel_rfl
theorem QKN:T.at 212=some QsJ:=by kernel_rfl
theorem QGx:T.at 213=some Qsg:=by kernel_rfl
theorem QHJ:T.at 214=some QtQ:=by kernel_rfl
theorem QCs:T.at 215=some Qpm:=by kernel_rfl
theorem QNy:T.at 216=some Qs0:=by kernel_rfl
theorem QM3:T.at 217=some QtU:=by kernel_rfl
theorem QM9:T.at 218=some Qt2:=by kernel_rfl
theorem QL9:T.at 219=some Qs2:=by kernel_rfl
theorem QN0:T.at 220=some QsZ:=by kernel_rfl
theorem QCc:T.at 221=some Qqw:=by kernel_rfl
theorem QKW:T.at 222=some Qta:=by kernel_rfl
theorem Qyj:T.at 223=some Qni:=by kernel_rfl
theorem QGQ:T.at 225=some Qtw:=by kernel_rfl
theorem QLo:T.at 226=some QtJ:=by kernel_rfl
theorem QNe:T.at 227=some Qsf:=by kernel_rfl
theorem QHR:T.at 228=some QtX:=by kernel_rfl
theorem QCD:T.at 251=some Qqs:=by kernel_rfl
theorem QCq:T.at 252=some QpS:=by kernel_rfl
theorem QBY:T.at 253=some Qqy:=by kernel_rfl
theorem QKp:T.at 254=some Qtn:=by kernel_rfl
theorem QCG:T.at 255=some Qpk:=by kernel_rfl
theorem QB4:T.at 256=some QqK:=by kernel_rfl
theorem QJQ:T.at 257=some Qs8:=by kernel_rfl
theorem QCi:T.at 258=some Qo8:=by kernel_rfl
theorem QGH:T.at 259=some Qsr:=by kernel_rfl
theorem QJv:T.at 260=some Qsh:=by kernel_rfl
theorem QJH:T.at 261=some Qsw:=by kernel_rfl
theorem QIY:T.at 262=some QtM:=by kernel_rfl
theorem QIj:T.at 263=some Qsi:=by kernel_rfl
theorem QCF:T.at 264=some Qq0:=by kernel_rfl
theorem QN9:T.at 265=some QsM:=by kernel_rfl
theorem QBN:T.at 266=some QpT:=by kernel_rfl
theorem QKP:T.at 267=some Qt0:=by kernel_rfl
theorem QHY:T.at 268=some Qtc:=by kernel_rfl
theorem QJT:T.at 270=some QsI:=by kernel_rfl
theorem QB0:T.at 278=some Qql:=by kernel_rfl
theorem QHp:T.at 279=some QsX:=by kernel_rfl
theorem QCh:T.at 280=some Qpt:=by kernel_rfl
theorem Qxl:T.at 281=some QnD:=by kernel_rfl
theorem Qv0:T.at 282=some Qm4:=by kernel_rfl
theorem QMV:T.at 283=some Qsp:=by kernel_rfl
theorem Qse:T.at 284=some Qma:=by kernel_rfl
theorem QIU:T.at 285=some QsS:=by kernel_rfl
theorem QN7:T.at 291=some QtR:=by kernel_rfl
theorem QKu:T.at 292=some Qsy:=by kernel_rfl
theorem QBD:T.at 293=some QpM:=by kernel_rfl
theorem QJj:T.at 294=some QtS:=by kernel_rfl
theorem QH2:T.at 296=some Qto:=by kernel_rfl
end Go.Proofs.YtonidbheohhgdaaGreat
