import Derived.Test.YtfhnbabcbhgffaaGreatDoorEc
import Derived.Test.YtfhnbabcbhgffaaGreatDoorEvD
set_option maxRecDepth 100000
set_option linter.defProp false
namespace Go.Proofs.YtfhnbabcbhgffaaGreatDoor
open Go Go.Proofs Go.Proofs.YtfhnbabcbhgffaaGreatDoor.Am Tryz
noncomputable def Lm(n k:Nat):Bool:=((T.ann.drop n).take k).all λp=>fOK T.P p.1 p.2
def Ls(n k:Nat)(h:Lm n k=true)(t:((T.ann.drop (n+k)).all λp=>fOK T.P p.1 p.2)=true):((T.ann.drop n).all λp=>fOK T.P p.1 p.2)=true:=by
 rw[←List.take_append_drop k (T.ann.drop n),List.all_append,List.drop_drop,t,Bool.and_true];exact h
def ok0:Lm 0 6=true:=by kernel_rfl
def ok6:Lm 6 6=true:=by kernel_rfl
def QoT:Lm 12 6=true:=by kernel_rfl
def QqY:Lm 18 6=true:=by kernel_rfl
def Qsd:Lm 24 6=true:=by kernel_rfl
def QsY:Lm 30 6=true:=by kernel_rfl
def QoA:Lm 36 6=true:=by kernel_rfl
def Qpv:Lm 42 6=true:=by kernel_rfl
def QoH:Lm 48 6=true:=by kernel_rfl
def Qp8:Lm 54 6=true:=by kernel_rfl
def QpW:Lm 60 6=true:=by kernel_rfl
def Qqz:Lm 66 6=true:=by kernel_rfl
def QrJ:Lm 72 6=true:=by kernel_rfl
def QpE:Lm 78 6=true:=by kernel_rfl
def Qp0:Lm 84 6=true:=by kernel_rfl
def QpB:Lm 90 6=true:=by kernel_rfl
def QsO:Lm 96 6=true:=by kernel_rfl
def Qni:Lm 102 6=true:=by kernel_rfl
def QlU:Lm 108 6=true:=by kernel_rfl
def QkX:Lm 114 6=true:=by kernel_rfl
def Qkw:Lm 120 6=true:=by kernel_rfl
def Qht:Lm 126 6=true:=by kernel_rfl
def Qic:Lm 132 6=true:=by kernel_rfl
def QlK:Lm 138 6=true:=by kernel_rfl
def Qg6:Lm 144 6=true:=by kernel_rfl
def Qig:Lm 150 6=true:=by kernel_rfl
def QiL:Lm 156 6=true:=by kernel_rfl
def Qij:Lm 162 6=true:=by kernel_rfl
def Qjw:Lm 168 6=true:=by kernel_rfl
def QjO:Lm 174 6=true:=by kernel_rfl
def QlD:Lm 180 6=true:=by kernel_rfl
def QmF:Lm 186 6=true:=by kernel_rfl
def Qjr:Lm 192 6=true:=by kernel_rfl
def QiH:Lm 198 6=true:=by kernel_rfl
def QlC:Lm 204 6=true:=by kernel_rfl
def Qiy:Lm 210 6=true:=by kernel_rfl
def Qj4:Lm 216 6=true:=by kernel_rfl
def QnP:Lm 222 6=true:=by kernel_rfl
def Qh9:Lm 228 6=true:=by kernel_rfl
def Qh3:Lm 234 6=true:=by kernel_rfl
def QrA:T.ok=true:=Ls 0 6 ok0<|Ls 6 6 ok6<|Ls 12 6 QoT<|Ls 18 6 QqY<|Ls 24 6 Qsd<|Ls 30 6 QsY<|Ls 36 6 QoA<|Ls 42 6 Qpv<|Ls 48 6 QoH<|Ls 54 6 Qp8<|Ls 60 6 QpW<|Ls 66 6 Qqz<|Ls 72 6 QrJ<|Ls 78 6 QpE<|Ls 84 6 Qp0<|Ls 90 6 QpB<|Ls 96 6 QsO<|Ls 102 6 Qni<|Ls 108 6 QlU<|Ls 114 6 QkX<|Ls 120 6 Qkw<|Ls 126 6 Qht<|Ls 132 6 Qic<|Ls 138 6 QlK<|Ls 144 6 Qg6<|Ls 150 6 Qig<|Ls 156 6 QiL<|Ls 162 6 Qij<|Ls 168 6 Qjw<|Ls 174 6 QjO<|Ls 180 6 QlD<|Ls 186 6 QmF<|Ls 192 6 Qjr<|Ls 198 6 QiH<|Ls 204 6 QlC<|Ls 210 6 Qiy<|Ls 216 6 Qj4<|Ls 222 6 QnP<|Ls 228 6 Qh9<|Ls 234 6 Qh3<|by kernel_rfl
end Go.Proofs.YtfhnbabcbhgffaaGreatDoor
