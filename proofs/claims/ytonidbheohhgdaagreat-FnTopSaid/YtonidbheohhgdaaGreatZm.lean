import Derived.Test.YtonidbheohhgdaaGreatInsM
import Derived.Test.YtonidbheohhgdaaGreatProg
import Derived.KernelRfl
namespace Go.Proofs.YtonidbheohhgdaaGreat
open Go Go.Proofs Go.Proofs.YtonidbheohhgdaaGreat.Am
set_option linter.unusedVariables false
set_option maxRecDepth 100000
def QyK : Go.Shelf.Ren:=⟨fun | 22=>119 | 29=>184 | 30=>185 | n=>n,fun | 24=>28 | 9=>60 | n=>n,fun n=>n⟩
noncomputable def QAp : Value:=((Tryz.prog.info? 60).bind (·.zero)).getD (.bool false)
theorem QRC : InsL Tryz.prog QyK Tryz.f119.name Tryz.f184.name 4 32 QAp where
 mixed:=by kernel_rfl
 f22:=Tryz.func119.trans (congrArg some (by kernel_rfl))
 f29:=Tryz.func184.trans (congrArg some (by kernel_rfl))
 t3:=Tryz.underlying3
 a3:=Tryz.isAgg3
 z3:=Tryz.sizeOf3
 v3:=Tryz.zeroValue3
 t4:=Tryz.underlying4
 a4:=Tryz.isAgg4
 z4:=Tryz.sizeOf4
 v4:=Tryz.zeroValue4
 t24:=Tryz.underlying28
 a24:=Tryz.isAgg28
 z24:=Tryz.sizeOf28
 v24:=Tryz.zeroValue28
 z9:=Tryz.sizeOf60
 i9:=by kernel_rfl
 o1:=by kernel_rfl
 o2:=by kernel_rfl
 o3:=by kernel_rfl
 zl:=by kernel_rfl
 zp:=by omega
theorem QHU [Wd] (R V : List (List AV)) (i : Int) (h1 : Ql R = true) (h2 : Ql V = true) (h3 : Qdy R i V 32 = true) : MC Tryz.prog 119 [some (.lst 4 R),some (.lst 4 V)] [.sl 0,.i .i64 i,.sl 1] (· = .own 4 (Q6 R i V)) :=
 QoJ QRC (by omega) (EnterOK.of (fn:=Tryz.f119) Tryz.func119 rfl (by decide)) h1 h2 h3
def Qy2 : Go.Shelf.Ren:=⟨fun | 22=>178 | 29=>229 | 30=>230 | n=>n,fun | 24=>24 | 9=>42 | n=>n,fun n=>n⟩
noncomputable def QAE : Value:=((Tryz.prog.info? 42).bind (·.zero)).getD (.bool false)
theorem QRD : InsL Tryz.prog Qy2 Tryz.f178.name Tryz.f229.name 8 64 QAE where
 mixed:=by kernel_rfl
 f22:=Tryz.func178.trans (congrArg some (by kernel_rfl))
 f29:=Tryz.func229.trans (congrArg some (by kernel_rfl))
 t3:=Tryz.underlying3
 a3:=Tryz.isAgg3
 z3:=Tryz.sizeOf3
 v3:=Tryz.zeroValue3
 t4:=Tryz.underlying4
 a4:=Tryz.isAgg4
 z4:=Tryz.sizeOf4
 v4:=Tryz.zeroValue4
 t24:=Tryz.underlying24
 a24:=Tryz.isAgg24
 z24:=Tryz.sizeOf24
 v24:=Tryz.zeroValue24
 z9:=Tryz.sizeOf42
 i9:=by kernel_rfl
 o1:=by kernel_rfl
 o2:=by kernel_rfl
 o3:=by kernel_rfl
 zl:=by kernel_rfl
 zp:=by omega
theorem QId [Wd] (R V : List (List AV)) (i : Int) (h1 : Ql R = true) (h2 : Ql V = true) (h3 : Qdy R i V 64 = true) : MC Tryz.prog 178 [some (.lst 8 R),some (.lst 8 V)] [.sl 0,.i .i64 i,.sl 1] (· = .own 8 (Q6 R i V)) :=
 QoJ QRD (by omega) (EnterOK.of (fn:=Tryz.f178) Tryz.func178 rfl (by decide)) h1 h2 h3
def QwF : Go.Shelf.Ren:=⟨fun | 22=>179 | 29=>231 | 30=>232 | n=>n,fun | 24=>25 | 9=>121 | n=>n,fun n=>n⟩
noncomputable def QAA : Value:=((Tryz.prog.info? 121).bind (·.zero)).getD (.bool false)
theorem QTp : InsL Tryz.prog QwF Tryz.f179.name Tryz.f231.name 3 40 QAA where
 mixed:=by kernel_rfl
 f22:=Tryz.func179.trans (congrArg some (by kernel_rfl))
 f29:=Tryz.func231.trans (congrArg some (by kernel_rfl))
 t3:=Tryz.underlying3
 a3:=Tryz.isAgg3
 z3:=Tryz.sizeOf3
 v3:=Tryz.zeroValue3
 t4:=Tryz.underlying4
 a4:=Tryz.isAgg4
 z4:=Tryz.sizeOf4
 v4:=Tryz.zeroValue4
 t24:=Tryz.underlying25
 a24:=Tryz.isAgg25
 z24:=Tryz.sizeOf25
 v24:=Tryz.zeroValue25
 z9:=Tryz.sizeOf121
 i9:=by kernel_rfl
 o1:=by kernel_rfl
 o2:=by kernel_rfl
 o3:=by kernel_rfl
 zl:=by kernel_rfl
 zp:=by omega
theorem QIB [Wd] (R V : List (List AV)) (i : Int) (h1 : Ql R = true) (h2 : Ql V = true) (h3 : Qdy R i V 40 = true) : MC Tryz.prog 179 [some (.lst 3 R),some (.lst 3 V)] [.sl 0,.i .i64 i,.sl 1] (· = .own 3 (Q6 R i V)) :=
 QoJ QTp (by omega) (EnterOK.of (fn:=Tryz.f179) Tryz.func179 rfl (by decide)) h1 h2 h3
def Qxt : Go.Shelf.Ren:=⟨fun | 22=>183 | 29=>234 | 30=>235 | n=>n,fun | 24=>27 | 9=>58 | n=>n,fun n=>n⟩
noncomputable def QCf : Value:=((Tryz.prog.info? 58).bind (·.zero)).getD (.bool false)
theorem QSF : InsL Tryz.prog Qxt Tryz.f183.name Tryz.f234.name 5 40 QCf where
 mixed:=by kernel_rfl
 f22:=Tryz.func183.trans (congrArg some (by kernel_rfl))
 f29:=Tryz.func234.trans (congrArg some (by kernel_rfl))
 t3:=Tryz.underlying3
 a3:=Tryz.isAgg3
 z3:=Tryz.sizeOf3
 v3:=Tryz.zeroValue3
 t4:=Tryz.underlying4
 a4:=Tryz.isAgg4
 z4:=Tryz.sizeOf4
 v4:=Tryz.zeroValue4
 t24:=Tryz.underlying27
 a24:=Tryz.isAgg27
 z24:=Tryz.sizeOf27
 v24:=Tryz.zeroValue27
 z9:=Tryz.sizeOf58
 i9:=by kernel_rfl
 o1:=by kernel_rfl
 o2:=by kernel_rfl
 o3:=by kernel_rfl
 zl:=by kernel_rfl
 zp:=by omega
theorem QJs [Wd] (R V : List (List AV)) (i : Int) (h1 : Ql R = true) (h2 : Ql V = true) (h3 : Qdy R i V 40 = true) : MC Tryz.prog 183 [some (.lst 5 R),some (.lst 5 V)] [.sl 0,.i .i64 i,.sl 1] (· = .own 5 (Q6 R i V)) :=
 QoJ QSF (by omega) (EnterOK.of (fn:=Tryz.f183) Tryz.func183 rfl (by decide)) h1 h2 h3
end Go.Proofs.YtonidbheohhgdaaGreat
