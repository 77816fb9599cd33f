import Derived.Test.YtncpklppoancgaaGreatInsM
import Derived.Test.YtncpklppoancgaaGreatProg
import Derived.KernelRfl
namespace Go.Proofs.YtncpklppoancgaaGreat
open Go Go.Proofs Go.Proofs.YtncpklppoancgaaGreat.Am
set_option linter.unusedVariables false
set_option maxRecDepth 100000
def QBE : Go.Shelf.Ren:=⟨fun | 22=>78 | 29=>146 | 30=>147 | n=>n,fun | 24=>30 | 9=>48 | n=>n,fun n=>n⟩
noncomputable def QFq : Value:=((Tryz.prog.info? 48).bind (·.zero)).getD (.bool false)
theorem i78 : InsL Tryz.prog QBE Tryz.f78.name Tryz.f146.name 4 32 QFq where
 mixed:=by kernel_rfl
 f22:=Tryz.func78.trans (congrArg some (by kernel_rfl))
 f29:=Tryz.func146.trans (congrArg some (by kernel_rfl))
 t3:=Tryz.underlying3
 a3:=Tryz.isAgg3
 z3:=Tryz.sizeOf3
 v3:=Tryz.zeroValue3
 t4:=Tryz.underlying4
 a4:=Tryz.isAgg4
 z4:=Tryz.sizeOf4
 v4:=Tryz.zeroValue4
 t24:=Tryz.underlying30
 a24:=Tryz.isAgg30
 z24:=Tryz.sizeOf30
 v24:=Tryz.zeroValue30
 z9:=Tryz.sizeOf48
 i9:=by kernel_rfl
 o1:=by kernel_rfl
 o2:=by kernel_rfl
 o3:=by kernel_rfl
 zl:=by kernel_rfl
 zp:=by omega
theorem QU5 [Wd] (R V : List (List AV)) (i : Int) (h1 : Qu R = true) (h2 : Qu V = true) (h3 : Qd6 R i V 32 = true) : MC Tryz.prog 78 [some (.lst 4 R),some (.lst 4 V)] [.sl 0,.i .i64 i,.sl 1] (· = .own 4 (Vl R i V)) :=
 QpN i78 (by omega) (EnterOK.of (fn:=Tryz.f78) Tryz.func78 rfl (by decide)) h1 h2 h3
def Qx0 : Go.Shelf.Ren:=⟨fun | 22=>136 | 29=>203 | 30=>204 | n=>n,fun | 24=>27 | 9=>57 | n=>n,fun n=>n⟩
noncomputable def QB5 : Value:=((Tryz.prog.info? 57).bind (·.zero)).getD (.bool false)
theorem QVX : InsL Tryz.prog Qx0 Tryz.f136.name Tryz.f203.name 8 64 QB5 where
 mixed:=by kernel_rfl
 f22:=Tryz.func136.trans (congrArg some (by kernel_rfl))
 f29:=Tryz.func203.trans (congrArg some (by kernel_rfl))
 t3:=Tryz.underlying3
 a3:=Tryz.isAgg3
 z3:=Tryz.sizeOf3
 v3:=Tryz.zeroValue3
 t4:=Tryz.underlying4
 a4:=Tryz.isAgg4
 z4:=Tryz.sizeOf4
 v4:=Tryz.zeroValue4
 t24:=Tryz.underlying27
 a24:=Tryz.isAgg27
 z24:=Tryz.sizeOf27
 v24:=Tryz.zeroValue27
 z9:=Tryz.sizeOf57
 i9:=by kernel_rfl
 o1:=by kernel_rfl
 o2:=by kernel_rfl
 o3:=by kernel_rfl
 zl:=by kernel_rfl
 zp:=by omega
theorem QOP [Wd] (R V : List (List AV)) (i : Int) (h1 : Qu R = true) (h2 : Qu V = true) (h3 : Qd6 R i V 64 = true) : MC Tryz.prog 136 [some (.lst 8 R),some (.lst 8 V)] [.sl 0,.i .i64 i,.sl 1] (· = .own 8 (Vl R i V)) :=
 QpN QVX (by omega) (EnterOK.of (fn:=Tryz.f136) Tryz.func136 rfl (by decide)) h1 h2 h3
def Qzy : Go.Shelf.Ren:=⟨fun | 22=>139 | 29=>207 | 30=>208 | n=>n,fun | 24=>28 | 9=>119 | n=>n,fun n=>n⟩
noncomputable def QBe : Value:=((Tryz.prog.info? 119).bind (·.zero)).getD (.bool false)
theorem QRT : InsL Tryz.prog Qzy Tryz.f139.name Tryz.f207.name 3 40 QBe where
 mixed:=by kernel_rfl
 f22:=Tryz.func139.trans (congrArg some (by kernel_rfl))
 f29:=Tryz.func207.trans (congrArg some (by kernel_rfl))
 t3:=Tryz.underlying3
 a3:=Tryz.isAgg3
 z3:=Tryz.sizeOf3
 v3:=Tryz.zeroValue3
 t4:=Tryz.underlying4
 a4:=Tryz.isAgg4
 z4:=Tryz.sizeOf4
 v4:=Tryz.zeroValue4
 t24:=Tryz.underlying28
 a24:=Tryz.isAgg28
 z24:=Tryz.sizeOf28
 v24:=Tryz.zeroValue28
 z9:=Tryz.sizeOf119
 i9:=by kernel_rfl
 o1:=by kernel_rfl
 o2:=by kernel_rfl
 o3:=by kernel_rfl
 zl:=by kernel_rfl
 zp:=by omega
theorem QLQ [Wd] (R V : List (List AV)) (i : Int) (h1 : Qu R = true) (h2 : Qu V = true) (h3 : Qd6 R i V 40 = true) : MC Tryz.prog 139 [some (.lst 3 R),some (.lst 3 V)] [.sl 0,.i .i64 i,.sl 1] (· = .own 3 (Vl R i V)) :=
 QpN QRT (by omega) (EnterOK.of (fn:=Tryz.f139) Tryz.func139 rfl (by decide)) h1 h2 h3
def QzV : Go.Shelf.Ren:=⟨fun | 22=>145 | 29=>210 | 30=>211 | n=>n,fun | 24=>29 | 9=>107 | n=>n,fun n=>n⟩
noncomputable def QB0 : Value:=((Tryz.prog.info? 107).bind (·.zero)).getD (.bool false)
theorem QW6 : InsL Tryz.prog QzV Tryz.f145.name Tryz.f210.name 5 40 QB0 where
 mixed:=by kernel_rfl
 f22:=Tryz.func145.trans (congrArg some (by kernel_rfl))
 f29:=Tryz.func210.trans (congrArg some (by kernel_rfl))
 t3:=Tryz.underlying3
 a3:=Tryz.isAgg3
 z3:=Tryz.sizeOf3
 v3:=Tryz.zeroValue3
 t4:=Tryz.underlying4
 a4:=Tryz.isAgg4
 z4:=Tryz.sizeOf4
 v4:=Tryz.zeroValue4
 t24:=Tryz.underlying29
 a24:=Tryz.isAgg29
 z24:=Tryz.sizeOf29
 v24:=Tryz.zeroValue29
 z9:=Tryz.sizeOf107
 i9:=by kernel_rfl
 o1:=by kernel_rfl
 o2:=by kernel_rfl
 o3:=by kernel_rfl
 zl:=by kernel_rfl
 zp:=by omega
theorem QMt [Wd] (R V : List (List AV)) (i : Int) (h1 : Qu R = true) (h2 : Qu V = true) (h3 : Qd6 R i V 40 = true) : MC Tryz.prog 145 [some (.lst 5 R),some (.lst 5 V)] [.sl 0,.i .i64 i,.sl 1] (· = .own 5 (Vl R i V)) :=
 QpN QW6 (by omega) (EnterOK.of (fn:=Tryz.f145) Tryz.func145 rfl (by decide)) h1 h2 h3
end Go.Proofs.YtncpklppoancgaaGreat
