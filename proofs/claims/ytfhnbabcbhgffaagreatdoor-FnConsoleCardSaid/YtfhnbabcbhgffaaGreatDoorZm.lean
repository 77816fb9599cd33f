import Derived.Test.YtfhnbabcbhgffaaGreatDoorInsM
import Derived.Test.YtfhnbabcbhgffaaGreatDoorProg
import Derived.KernelRfl
set_option linter.unusedVariables false
set_option maxRecDepth 100000
set_option linter.defProp false
noncomputable section
namespace Go.Proofs.YtfhnbabcbhgffaaGreatDoor
open Go Go.Proofs Go.Proofs.YtfhnbabcbhgffaaGreatDoor.Am
def pY:Go.Shelf.Ren:=⟨λ|22=>139|29=>219|30=>220|n=>n,λ|24=>28|9=>80|n=>n,λn=>n⟩
def Qak:Value:=((Tryz.prog.info? 80).bind (·.zero)).getD (.bool false)
def i139:InsL Tryz.prog pY Tryz.f139.name Tryz.f219.name 4 32 Qak where
 mixed:=by kernel_rfl
 f22:=Tryz.func139.trans (congrArg some (by kernel_rfl))
 f29:=Tryz.func219.trans (congrArg some (by kernel_rfl))
 t3:=Tryz.underlying3
 a3:=Tryz.isAgg3
 z3:=Tryz.sizeOf3
 v3:=Tryz.zeroValue3
 t4:=Tryz.underlying4
 a4:=Tryz.isAgg4
 z4:=Tryz.sizeOf4
 v4:=Tryz.zeroValue4
 t24:=Tryz.underlying28
 a24:=Tryz.isAgg28
 z24:=Tryz.sizeOf28
 v24:=Tryz.zeroValue28
 z9:=Tryz.sizeOf80
 i9:=by kernel_rfl
 o1:=by kernel_rfl
 o2:=by kernel_rfl
 o3:=by kernel_rfl
 zl:=by kernel_rfl
 zp:=by omega
def QkU[Wd](R V:List (List AV))(i:Int)(h1:Va R=true)(h2:Va V=true)(h3:HL R i V 32=true):MC Tryz.prog 139 [some (.lst 4 R),some (.lst 4 V)] [.sl 0,.i .i64 i,.sl 1] (·=.own 4 (V5 R i V)) :=
 dr i139 (by omega) (EnterOK.of (fn:=Tryz.f139) Tryz.func139 rfl (by decide)) h1 h2 h3
def sy:Go.Shelf.Ren:=⟨λ|22=>212|29=>256|30=>257|n=>n,λ|24=>24|9=>70|n=>n,λn=>n⟩
def zZ:Value:=((Tryz.prog.info? 70).bind (·.zero)).getD (.bool false)
def i212:InsL Tryz.prog sy Tryz.f212.name Tryz.f256.name 8 64 zZ where
 mixed:=by kernel_rfl
 f22:=Tryz.func212.trans (congrArg some (by kernel_rfl))
 f29:=Tryz.func256.trans (congrArg some (by kernel_rfl))
 t3:=Tryz.underlying3
 a3:=Tryz.isAgg3
 z3:=Tryz.sizeOf3
 v3:=Tryz.zeroValue3
 t4:=Tryz.underlying4
 a4:=Tryz.isAgg4
 z4:=Tryz.sizeOf4
 v4:=Tryz.zeroValue4
 t24:=Tryz.underlying24
 a24:=Tryz.isAgg24
 z24:=Tryz.sizeOf24
 v24:=Tryz.zeroValue24
 z9:=Tryz.sizeOf70
 i9:=by kernel_rfl
 o1:=by kernel_rfl
 o2:=by kernel_rfl
 o3:=by kernel_rfl
 zl:=by kernel_rfl
 zp:=by omega
def Qg0[Wd](R V:List (List AV))(i:Int)(h1:Va R=true)(h2:Va V=true)(h3:HL R i V 64=true):MC Tryz.prog 212 [some (.lst 8 R),some (.lst 8 V)] [.sl 0,.i .i64 i,.sl 1] (·=.own 8 (V5 R i V)) :=
 dr i212 (by omega) (EnterOK.of (fn:=Tryz.f212) Tryz.func212 rfl (by decide)) h1 h2 h3
def sF:Go.Shelf.Ren:=⟨λ|22=>213|29=>258|30=>259|n=>n,λ|24=>25|9=>152|n=>n,λn=>n⟩
def wN:Value:=((Tryz.prog.info? 152).bind (·.zero)).getD (.bool false)
def Qrx:InsL Tryz.prog sF Tryz.f213.name Tryz.f258.name 3 40 wN where
 mixed:=by kernel_rfl
 f22:=Tryz.func213.trans (congrArg some (by kernel_rfl))
 f29:=Tryz.func258.trans (congrArg some (by kernel_rfl))
 t3:=Tryz.underlying3
 a3:=Tryz.isAgg3
 z3:=Tryz.sizeOf3
 v3:=Tryz.zeroValue3
 t4:=Tryz.underlying4
 a4:=Tryz.isAgg4
 z4:=Tryz.sizeOf4
 v4:=Tryz.zeroValue4
 t24:=Tryz.underlying25
 a24:=Tryz.isAgg25
 z24:=Tryz.sizeOf25
 v24:=Tryz.zeroValue25
 z9:=Tryz.sizeOf152
 i9:=by kernel_rfl
 o1:=by kernel_rfl
 o2:=by kernel_rfl
 o3:=by kernel_rfl
 zl:=by kernel_rfl
 zp:=by omega
def Qg5[Wd](R V:List (List AV))(i:Int)(h1:Va R=true)(h2:Va V=true)(h3:HL R i V 40=true):MC Tryz.prog 213 [some (.lst 3 R),some (.lst 3 V)] [.sl 0,.i .i64 i,.sl 1] (·=.own 3 (V5 R i V)) :=
 dr Qrx (by omega) (EnterOK.of (fn:=Tryz.f213) Tryz.func213 rfl (by decide)) h1 h2 h3
def qG:Go.Shelf.Ren:=⟨λ|22=>218|29=>261|30=>262|n=>n,λ|24=>27|9=>77|n=>n,λn=>n⟩
def yJ:Value:=((Tryz.prog.info? 77).bind (·.zero)).getD (.bool false)
def Qr4:InsL Tryz.prog qG Tryz.f218.name Tryz.f261.name 5 40 yJ where
 mixed:=by kernel_rfl
 f22:=Tryz.func218.trans (congrArg some (by kernel_rfl))
 f29:=Tryz.func261.trans (congrArg some (by kernel_rfl))
 t3:=Tryz.underlying3
 a3:=Tryz.isAgg3
 z3:=Tryz.sizeOf3
 v3:=Tryz.zeroValue3
 t4:=Tryz.underlying4
 a4:=Tryz.isAgg4
 z4:=Tryz.sizeOf4
 v4:=Tryz.zeroValue4
 t24:=Tryz.underlying27
 a24:=Tryz.isAgg27
 z24:=Tryz.sizeOf27
 v24:=Tryz.zeroValue27
 z9:=Tryz.sizeOf77
 i9:=by kernel_rfl
 o1:=by kernel_rfl
 o2:=by kernel_rfl
 o3:=by kernel_rfl
 zl:=by kernel_rfl
 zp:=by omega
def Qna[Wd](R V:List (List AV))(i:Int)(h1:Va R=true)(h2:Va V=true)(h3:HL R i V 40=true):MC Tryz.prog 218 [some (.lst 5 R),some (.lst 5 V)] [.sl 0,.i .i64 i,.sl 1] (·=.own 5 (V5 R i V)) :=
 dr Qr4 (by omega) (EnterOK.of (fn:=Tryz.f218) Tryz.func218 rfl (by decide)) h1 h2 h3
end Go.Proofs.YtfhnbabcbhgffaaGreatDoor
