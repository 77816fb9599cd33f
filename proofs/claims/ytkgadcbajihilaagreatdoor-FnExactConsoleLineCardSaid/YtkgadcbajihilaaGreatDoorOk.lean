import Derived.Test.YtkgadcbajihilaaGreatDoorEc
import Derived.Test.YtkgadcbajihilaaGreatDoorEvD
set_option maxRecDepth 100000
set_option linter.defProp false
namespace Go.Proofs.YtkgadcbajihilaaGreatDoor
open Go Go.Proofs Go.Proofs.YtkgadcbajihilaaGreatDoor.Am Tryz
noncomputable def Ie(n k:Nat):Bool:=((T.ann.drop n).take k).all λp=>fOK T.P p.1 p.2
def Iq(n k:Nat)(h:Ie n k=true)(t:((T.ann.drop (n+k)).all λp=>fOK T.P p.1 p.2)=true):((T.ann.drop n).all λp=>fOK T.P p.1 p.2)=true:=by
 rw[←List.take_append_drop k (T.ann.drop n),List.all_append,List.drop_drop,t,Bool.and_true];exact h
def ok0:Ie 0 6=true:=by kernel_rfl
def ok6:Ie 6 6=true:=by kernel_rfl
def Qyh:Ie 12 6=true:=by kernel_rfl
def Qx4:Ie 18 6=true:=by kernel_rfl
def Qvw:Ie 24 6=true:=by kernel_rfl
def QwX:Ie 30 6=true:=by kernel_rfl
def QuT:Ie 36 6=true:=by kernel_rfl
def Qt1:Ie 42 6=true:=by kernel_rfl
def QtU:Ie 48 6=true:=by kernel_rfl
def Qxq:Ie 54 6=true:=by kernel_rfl
def Qxt:Ie 60 6=true:=by kernel_rfl
def Qu0:Ie 66 6=true:=by kernel_rfl
def QwH:Ie 72 6=true:=by kernel_rfl
def QwM:Ie 78 6=true:=by kernel_rfl
def Qva:Ie 84 6=true:=by kernel_rfl
def QxA:Ie 90 6=true:=by kernel_rfl
def QtX:Ie 96 6=true:=by kernel_rfl
def QpR:Ie 102 6=true:=by kernel_rfl
def QlQ:Ie 108 6=true:=by kernel_rfl
def QnM:Ie 114 6=true:=by kernel_rfl
def QpQ:Ie 120 6=true:=by kernel_rfl
def Qnf:Ie 126 6=true:=by kernel_rfl
def Qqs:Ie 132 6=true:=by kernel_rfl
def Qtu:Ie 138 6=true:=by kernel_rfl
def Qnq:Ie 144 6=true:=by kernel_rfl
def Qpa:Ie 150 6=true:=by kernel_rfl
def Qpg:Ie 156 6=true:=by kernel_rfl
def QsV:Ie 162 6=true:=by kernel_rfl
def Qp6:Ie 168 6=true:=by kernel_rfl
def Qsy:Ie 174 6=true:=by kernel_rfl
def Qqd:Ie 180 6=true:=by kernel_rfl
def QmG:Ie 186 6=true:=by kernel_rfl
def Qmw:Ie 192 6=true:=by kernel_rfl
def QpF:Ie 198 6=true:=by kernel_rfl
def Qma:Ie 204 6=true:=by kernel_rfl
def QmT:Ie 210 6=true:=by kernel_rfl
def Qs0:Ie 216 6=true:=by kernel_rfl
def Qon:Ie 222 6=true:=by kernel_rfl
def QrK:Ie 228 6=true:=by kernel_rfl
def QpB:Ie 234 6=true:=by kernel_rfl
def Qtk:Ie 240 6=true:=by kernel_rfl
def Qry:Ie 246 6=true:=by kernel_rfl
def Qsh:Ie 252 6=true:=by kernel_rfl
def QrQ:Ie 258 6=true:=by kernel_rfl
def Qr4:Ie 264 6=true:=by kernel_rfl
def Qqi:Ie 270 6=true:=by kernel_rfl
def Qmr:Ie 276 6=true:=by kernel_rfl
def QqL:Ie 282 6=true:=by kernel_rfl
def Qp2:Ie 288 6=true:=by kernel_rfl
def Qlw:Ie 294 6=true:=by kernel_rfl
def Ql1:Ie 300 6=true:=by kernel_rfl
def QpT:Ie 306 6=true:=by kernel_rfl
def QqK:Ie 312 6=true:=by kernel_rfl
def Qna:Ie 318 6=true:=by kernel_rfl
def QoX:Ie 324 6=true:=by kernel_rfl
def Qyo:T.ok=true:=Iq 0 6 ok0<|Iq 6 6 ok6<|Iq 12 6 Qyh<|Iq 18 6 Qx4<|Iq 24 6 Qvw<|Iq 30 6 QwX<|Iq 36 6 QuT<|Iq 42 6 Qt1<|Iq 48 6 QtU<|Iq 54 6 Qxq<|Iq 60 6 Qxt<|Iq 66 6 Qu0<|Iq 72 6 QwH<|Iq 78 6 QwM<|Iq 84 6 Qva<|Iq 90 6 QxA<|Iq 96 6 QtX<|Iq 102 6 QpR<|Iq 108 6 QlQ<|Iq 114 6 QnM<|Iq 120 6 QpQ<|Iq 126 6 Qnf<|Iq 132 6 Qqs<|Iq 138 6 Qtu<|Iq 144 6 Qnq<|Iq 150 6 Qpa<|Iq 156 6 Qpg<|Iq 162 6 QsV<|Iq 168 6 Qp6<|Iq 174 6 Qsy<|Iq 180 6 Qqd<|Iq 186 6 QmG<|Iq 192 6 Qmw<|Iq 198 6 QpF<|Iq 204 6 Qma<|Iq 210 6 QmT<|Iq 216 6 Qs0<|Iq 222 6 Qon<|Iq 228 6 QrK<|Iq 234 6 QpB<|Iq 240 6 Qtk<|Iq 246 6 Qry<|Iq 252 6 Qsh<|Iq 258 6 QrQ<|Iq 264 6 Qr4<|Iq 270 6 Qqi<|Iq 276 6 Qmr<|Iq 282 6 QqL<|Iq 288 6 Qp2<|Iq 294 6 Qlw<|Iq 300 6 Ql1<|Iq 306 6 QpT<|Iq 312 6 QqK<|Iq 318 6 Qna<|Iq 324 6 QoX<|by kernel_rfl
end Go.Proofs.YtkgadcbajihilaaGreatDoor
