import Derived.Test.YtkgadcbajihilaaGreatDoorInsM
import Derived.Test.YtkgadcbajihilaaGreatDoorProg
import Derived.KernelRfl
set_option linter.unusedVariables false
set_option maxRecDepth 100000
set_option linter.defProp false
noncomputable section
namespace Go.Proofs.YtkgadcbajihilaaGreatDoor
open Go Go.Proofs Go.Proofs.YtkgadcbajihilaaGreatDoor.Am
def Qav:Go.Shelf.Ren:=⟨λ|22=>229|29=>314|30=>315|n=>n,λ|24=>36|9=>146|n=>n,λn=>n⟩
def Qeo:Value:=((Tryz.prog.info? 146).bind (·.zero)).getD (.bool false)
def QwT:InsL Tryz.prog Qav Tryz.f229.name Tryz.f314.name 4 32 Qeo where
 mixed:=by kernel_rfl
 f22:=Tryz.func229.trans (congrArg some (by kernel_rfl))
 f29:=Tryz.func314.trans (congrArg some (by kernel_rfl))
 t3:=Tryz.underlying3
 a3:=Tryz.isAgg3
 z3:=Tryz.sizeOf3
 v3:=Tryz.zeroValue3
 t4:=Tryz.underlying4
 a4:=Tryz.isAgg4
 z4:=Tryz.sizeOf4
 v4:=Tryz.zeroValue4
 t24:=Tryz.underlying36
 a24:=Tryz.isAgg36
 z24:=Tryz.sizeOf36
 v24:=Tryz.zeroValue36
 z9:=Tryz.sizeOf146
 i9:=by kernel_rfl
 o1:=by kernel_rfl
 o2:=by kernel_rfl
 o3:=by kernel_rfl
 zl:=by kernel_rfl
 zp:=by omega
def QnQ[Wd](R V:List (List AV))(i:Int)(h1:Vd R=true)(h2:Vd V=true)(h3:IK R i V 32=true):MC Tryz.prog 229 [some (.lst 4 R),some (.lst 4 V)] [.sl 0,.i .i64 i,.sl 1] (·=.own 4 (VY R i V)) :=
 gv QwT (by omega) (EnterOK.of (fn:=Tryz.f229) Tryz.func229 rfl (by decide)) h1 h2 h3
def wN:Go.Shelf.Ren:=⟨λ|22=>305|29=>346|30=>347|n=>n,λ|24=>32|9=>60|n=>n,λn=>n⟩
def QbZ:Value:=((Tryz.prog.info? 60).bind (·.zero)).getD (.bool false)
def Qu5:InsL Tryz.prog wN Tryz.f305.name Tryz.f346.name 8 64 QbZ where
 mixed:=by kernel_rfl
 f22:=Tryz.func305.trans (congrArg some (by kernel_rfl))
 f29:=Tryz.func346.trans (congrArg some (by kernel_rfl))
 t3:=Tryz.underlying3
 a3:=Tryz.isAgg3
 z3:=Tryz.sizeOf3
 v3:=Tryz.zeroValue3
 t4:=Tryz.underlying4
 a4:=Tryz.isAgg4
 z4:=Tryz.sizeOf4
 v4:=Tryz.zeroValue4
 t24:=Tryz.underlying32
 a24:=Tryz.isAgg32
 z24:=Tryz.sizeOf32
 v24:=Tryz.zeroValue32
 z9:=Tryz.sizeOf60
 i9:=by kernel_rfl
 o1:=by kernel_rfl
 o2:=by kernel_rfl
 o3:=by kernel_rfl
 zl:=by kernel_rfl
 zp:=by omega
def Qrx[Wd](R V:List (List AV))(i:Int)(h1:Vd R=true)(h2:Vd V=true)(h3:IK R i V 64=true):MC Tryz.prog 305 [some (.lst 8 R),some (.lst 8 V)] [.sl 0,.i .i64 i,.sl 1] (·=.own 8 (VY R i V)) :=
 gv Qu5 (by omega) (EnterOK.of (fn:=Tryz.f305) Tryz.func305 rfl (by decide)) h1 h2 h3
def wg:Go.Shelf.Ren:=⟨λ|22=>306|29=>348|30=>349|n=>n,λ|24=>33|9=>160|n=>n,λn=>n⟩
def QcV:Value:=((Tryz.prog.info? 160).bind (·.zero)).getD (.bool false)
def QuB:InsL Tryz.prog wg Tryz.f306.name Tryz.f348.name 3 40 QcV where
 mixed:=by kernel_rfl
 f22:=Tryz.func306.trans (congrArg some (by kernel_rfl))
 f29:=Tryz.func348.trans (congrArg some (by kernel_rfl))
 t3:=Tryz.underlying3
 a3:=Tryz.isAgg3
 z3:=Tryz.sizeOf3
 v3:=Tryz.zeroValue3
 t4:=Tryz.underlying4
 a4:=Tryz.isAgg4
 z4:=Tryz.sizeOf4
 v4:=Tryz.zeroValue4
 t24:=Tryz.underlying33
 a24:=Tryz.isAgg33
 z24:=Tryz.sizeOf33
 v24:=Tryz.zeroValue33
 z9:=Tryz.sizeOf160
 i9:=by kernel_rfl
 o1:=by kernel_rfl
 o2:=by kernel_rfl
 o3:=by kernel_rfl
 zl:=by kernel_rfl
 zp:=by omega
def Qmp[Wd](R V:List (List AV))(i:Int)(h1:Vd R=true)(h2:Vd V=true)(h3:IK R i V 40=true):MC Tryz.prog 306 [some (.lst 3 R),some (.lst 3 V)] [.sl 0,.i .i64 i,.sl 1] (·=.own 3 (VY R i V)) :=
 gv QuB (by omega) (EnterOK.of (fn:=Tryz.f306) Tryz.func306 rfl (by decide)) h1 h2 h3
def z8:Go.Shelf.Ren:=⟨λ|22=>311|29=>351|30=>352|n=>n,λ|24=>35|9=>152|n=>n,λn=>n⟩
def Qdt:Value:=((Tryz.prog.info? 152).bind (·.zero)).getD (.bool false)
def Qyt:InsL Tryz.prog z8 Tryz.f311.name Tryz.f351.name 5 40 Qdt where
 mixed:=by kernel_rfl
 f22:=Tryz.func311.trans (congrArg some (by kernel_rfl))
 f29:=Tryz.func351.trans (congrArg some (by kernel_rfl))
 t3:=Tryz.underlying3
 a3:=Tryz.isAgg3
 z3:=Tryz.sizeOf3
 v3:=Tryz.zeroValue3
 t4:=Tryz.underlying4
 a4:=Tryz.isAgg4
 z4:=Tryz.sizeOf4
 v4:=Tryz.zeroValue4
 t24:=Tryz.underlying35
 a24:=Tryz.isAgg35
 z24:=Tryz.sizeOf35
 v24:=Tryz.zeroValue35
 z9:=Tryz.sizeOf152
 i9:=by kernel_rfl
 o1:=by kernel_rfl
 o2:=by kernel_rfl
 o3:=by kernel_rfl
 zl:=by kernel_rfl
 zp:=by omega
def Qo4[Wd](R V:List (List AV))(i:Int)(h1:Vd R=true)(h2:Vd V=true)(h3:IK R i V 40=true):MC Tryz.prog 311 [some (.lst 5 R),some (.lst 5 V)] [.sl 0,.i .i64 i,.sl 1] (·=.own 5 (VY R i V)) :=
 gv Qyt (by omega) (EnterOK.of (fn:=Tryz.f311) Tryz.func311 rfl (by decide)) h1 h2 h3
end Go.Proofs.YtkgadcbajihilaaGreatDoor
