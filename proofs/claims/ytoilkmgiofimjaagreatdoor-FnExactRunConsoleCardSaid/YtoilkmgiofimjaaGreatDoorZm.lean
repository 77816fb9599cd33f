import Derived.Test.YtoilkmgiofimjaaGreatDoorInsM
import Derived.Test.YtoilkmgiofimjaaGreatDoorProg
import Derived.KernelRfl
noncomputable section
namespace Go.Proofs.YtoilkmgiofimjaaGreatDoor
open Go Go.Proofs Go.Proofs.YtoilkmgiofimjaaGreatDoor.Am
set_option linter.unusedVariables false
set_option maxRecDepth 100000
def pn:Go.Shelf.Ren:=⟨λ|22=>179|29=>262|30=>263|n=>n,λ|24=>32|9=>107|n=>n,λn=>n⟩
def yZ:Value:=((Tryz.prog.info? 107).bind (·.zero)).getD (.bool false)
theorem Qpa:InsL Tryz.prog pn Tryz.f179.name Tryz.f262.name 4 32 yZ where
 mixed:=by kernel_rfl
 f22:=Tryz.func179.trans (congrArg some (by kernel_rfl))
 f29:=Tryz.func262.trans (congrArg some (by kernel_rfl))
 t3:=Tryz.underlying3
 a3:=Tryz.isAgg3
 z3:=Tryz.sizeOf3
 v3:=Tryz.zeroValue3
 t4:=Tryz.underlying4
 a4:=Tryz.isAgg4
 z4:=Tryz.sizeOf4
 v4:=Tryz.zeroValue4
 t24:=Tryz.underlying32
 a24:=Tryz.isAgg32
 z24:=Tryz.sizeOf32
 v24:=Tryz.zeroValue32
 z9:=Tryz.sizeOf107
 i9:=by kernel_rfl
 o1:=by kernel_rfl
 o2:=by kernel_rfl
 o3:=by kernel_rfl
 zl:=by kernel_rfl
 zp:=by omega
theorem QgM[Wd](R V:List (List AV))(i:Int)(h1:QF R=true)(h2:QF V=true)(h3:Gu R i V 32=true):MC Tryz.prog 179 [some (.lst 4 R),some (.lst 4 V)] [.sl 0,.i .i64 i,.sl 1] (·=.own 4 (Vt R i V)) :=
 bz Qpa (by omega) (EnterOK.of (fn:=Tryz.f179) Tryz.func179 rfl (by decide)) h1 h2 h3
def qR:Go.Shelf.Ren:=⟨λ|22=>253|29=>290|30=>291|n=>n,λ|24=>28|9=>46|n=>n,λn=>n⟩
def xl:Value:=((Tryz.prog.info? 46).bind (·.zero)).getD (.bool false)
theorem Qqm:InsL Tryz.prog qR Tryz.f253.name Tryz.f290.name 8 64 xl where
 mixed:=by kernel_rfl
 f22:=Tryz.func253.trans (congrArg some (by kernel_rfl))
 f29:=Tryz.func290.trans (congrArg some (by kernel_rfl))
 t3:=Tryz.underlying3
 a3:=Tryz.isAgg3
 z3:=Tryz.sizeOf3
 v3:=Tryz.zeroValue3
 t4:=Tryz.underlying4
 a4:=Tryz.isAgg4
 z4:=Tryz.sizeOf4
 v4:=Tryz.zeroValue4
 t24:=Tryz.underlying28
 a24:=Tryz.isAgg28
 z24:=Tryz.sizeOf28
 v24:=Tryz.zeroValue28
 z9:=Tryz.sizeOf46
 i9:=by kernel_rfl
 o1:=by kernel_rfl
 o2:=by kernel_rfl
 o3:=by kernel_rfl
 zl:=by kernel_rfl
 zp:=by omega
theorem QeF[Wd](R V:List (List AV))(i:Int)(h1:QF R=true)(h2:QF V=true)(h3:Gu R i V 64=true):MC Tryz.prog 253 [some (.lst 8 R),some (.lst 8 V)] [.sl 0,.i .i64 i,.sl 1] (·=.own 8 (Vt R i V)) :=
 bz Qqm (by omega) (EnterOK.of (fn:=Tryz.f253) Tryz.func253 rfl (by decide)) h1 h2 h3
def pr:Go.Shelf.Ren:=⟨λ|22=>254|29=>292|30=>293|n=>n,λ|24=>29|9=>141|n=>n,λn=>n⟩
def xV:Value:=((Tryz.prog.info? 141).bind (·.zero)).getD (.bool false)
theorem Qs0:InsL Tryz.prog pr Tryz.f254.name Tryz.f292.name 3 40 xV where
 mixed:=by kernel_rfl
 f22:=Tryz.func254.trans (congrArg some (by kernel_rfl))
 f29:=Tryz.func292.trans (congrArg some (by kernel_rfl))
 t3:=Tryz.underlying3
 a3:=Tryz.isAgg3
 z3:=Tryz.sizeOf3
 v3:=Tryz.zeroValue3
 t4:=Tryz.underlying4
 a4:=Tryz.isAgg4
 z4:=Tryz.sizeOf4
 v4:=Tryz.zeroValue4
 t24:=Tryz.underlying29
 a24:=Tryz.isAgg29
 z24:=Tryz.sizeOf29
 v24:=Tryz.zeroValue29
 z9:=Tryz.sizeOf141
 i9:=by kernel_rfl
 o1:=by kernel_rfl
 o2:=by kernel_rfl
 o3:=by kernel_rfl
 zl:=by kernel_rfl
 zp:=by omega
theorem Qh7[Wd](R V:List (List AV))(i:Int)(h1:QF R=true)(h2:QF V=true)(h3:Gu R i V 40=true):MC Tryz.prog 254 [some (.lst 3 R),some (.lst 3 V)] [.sl 0,.i .i64 i,.sl 1] (·=.own 3 (Vt R i V)) :=
 bz Qs0 (by omega) (EnterOK.of (fn:=Tryz.f254) Tryz.func254 rfl (by decide)) h1 h2 h3
def qO:Go.Shelf.Ren:=⟨λ|22=>259|29=>295|30=>296|n=>n,λ|24=>31|9=>114|n=>n,λn=>n⟩
def vw:Value:=((Tryz.prog.info? 114).bind (·.zero)).getD (.bool false)
theorem Qn4:InsL Tryz.prog qO Tryz.f259.name Tryz.f295.name 5 40 vw where
 mixed:=by kernel_rfl
 f22:=Tryz.func259.trans (congrArg some (by kernel_rfl))
 f29:=Tryz.func295.trans (congrArg some (by kernel_rfl))
 t3:=Tryz.underlying3
 a3:=Tryz.isAgg3
 z3:=Tryz.sizeOf3
 v3:=Tryz.zeroValue3
 t4:=Tryz.underlying4
 a4:=Tryz.isAgg4
 z4:=Tryz.sizeOf4
 v4:=Tryz.zeroValue4
 t24:=Tryz.underlying31
 a24:=Tryz.isAgg31
 z24:=Tryz.sizeOf31
 v24:=Tryz.zeroValue31
 z9:=Tryz.sizeOf114
 i9:=by kernel_rfl
 o1:=by kernel_rfl
 o2:=by kernel_rfl
 o3:=by kernel_rfl
 zl:=by kernel_rfl
 zp:=by omega
theorem QnH[Wd](R V:List (List AV))(i:Int)(h1:QF R=true)(h2:QF V=true)(h3:Gu R i V 40=true):MC Tryz.prog 259 [some (.lst 5 R),some (.lst 5 V)] [.sl 0,.i .i64 i,.sl 1] (·=.own 5 (Vt R i V)) :=
 bz Qn4 (by omega) (EnterOK.of (fn:=Tryz.f259) Tryz.func259 rfl (by decide)) h1 h2 h3
end Go.Proofs.YtoilkmgiofimjaaGreatDoor
