import Derived.Test.YtcdffihcfeajfaaGreatInsM
import Derived.Test.YtcdffihcfeajfaaGreatProg
import Derived.KernelRfl
namespace Go.Proofs.YtcdffihcfeajfaaGreat
open Go Go.Proofs Go.Proofs.YtcdffihcfeajfaaGreat.Am
set_option linter.unusedVariables false
set_option maxRecDepth 100000
def QyJ : Go.Shelf.Ren := ⟨fun | 22 => 115 | 29 => 204 | 30 => 205 | n => n, fun | 24 => 28 | 9 => 139 | n => n, fun n => n⟩
noncomputable def QBl : Value := ((Tryz.prog.info? 139).bind (·.zero)).getD (.bool false)
theorem QT7 : InsL Tryz.prog QyJ Tryz.f115.name Tryz.f204.name 4 32 QBl where
 mixed := by kernel_rfl
 f22 := Tryz.func115.trans (congrArg some (by kernel_rfl))
 f29 := Tryz.func204.trans (congrArg some (by kernel_rfl))
 t3 := Tryz.underlying3
 a3 := Tryz.isAgg3
 z3 := Tryz.sizeOf3
 v3 := Tryz.zeroValue3
 t4 := Tryz.underlying4
 a4 := Tryz.isAgg4
 z4 := Tryz.sizeOf4
 v4 := Tryz.zeroValue4
 t24 := Tryz.underlying28
 a24 := Tryz.isAgg28
 z24 := Tryz.sizeOf28
 v24 := Tryz.zeroValue28
 z9 := Tryz.sizeOf139
 i9 := by kernel_rfl
 o1 := by kernel_rfl
 o2 := by kernel_rfl
 o3 := by kernel_rfl
 zl := by kernel_rfl
 zp := by omega
theorem QIF [Wd] (R V : List (List AV)) (i : Int) (h1 : Qs R = true) (h2 : Qs V = true) (h3 : Qel R i V 32 = true) : MC Tryz.prog 115 [some (.lst 4 R), some (.lst 4 V)] [.sl 0, .i .i64 i, .sl 1] (· = .own 4 (Q2 R i V)) :=
 Qqy QT7 (by omega) (EnterOK.of (fn := Tryz.f115) Tryz.func115 rfl (by decide)) h1 h2 h3
def QxA : Go.Shelf.Ren := ⟨fun | 22 => 201 | 29 => 244 | 30 => 245 | n => n, fun | 24 => 27 | 9 => 136 | n => n, fun n => n⟩
noncomputable def QA9 : Value := ((Tryz.prog.info? 136).bind (·.zero)).getD (.bool false)
theorem QQF : InsL Tryz.prog QxA Tryz.f201.name Tryz.f244.name 5 40 QA9 where
 mixed := by kernel_rfl
 f22 := Tryz.func201.trans (congrArg some (by kernel_rfl))
 f29 := Tryz.func244.trans (congrArg some (by kernel_rfl))
 t3 := Tryz.underlying3
 a3 := Tryz.isAgg3
 z3 := Tryz.sizeOf3
 v3 := Tryz.zeroValue3
 t4 := Tryz.underlying4
 a4 := Tryz.isAgg4
 z4 := Tryz.sizeOf4
 v4 := Tryz.zeroValue4
 t24 := Tryz.underlying27
 a24 := Tryz.isAgg27
 z24 := Tryz.sizeOf27
 v24 := Tryz.zeroValue27
 z9 := Tryz.sizeOf136
 i9 := by kernel_rfl
 o1 := by kernel_rfl
 o2 := by kernel_rfl
 o3 := by kernel_rfl
 zl := by kernel_rfl
 zp := by omega
theorem QJQ [Wd] (R V : List (List AV)) (i : Int) (h1 : Qs R = true) (h2 : Qs V = true) (h3 : Qel R i V 40 = true) : MC Tryz.prog 201 [some (.lst 5 R), some (.lst 5 V)] [.sl 0, .i .i64 i, .sl 1] (· = .own 5 (Q2 R i V)) :=
 Qqy QQF (by omega) (EnterOK.of (fn := Tryz.f201) Tryz.func201 rfl (by decide)) h1 h2 h3
def QwJ : Go.Shelf.Ren := ⟨fun | 22 => 218 | 29 => 252 | 30 => 253 | n => n, fun | 24 => 24 | 9 => 66 | n => n, fun n => n⟩
noncomputable def QDF : Value := ((Tryz.prog.info? 66).bind (·.zero)).getD (.bool false)
theorem QUl : InsL Tryz.prog QwJ Tryz.f218.name Tryz.f252.name 8 64 QDF where
 mixed := by kernel_rfl
 f22 := Tryz.func218.trans (congrArg some (by kernel_rfl))
 f29 := Tryz.func252.trans (congrArg some (by kernel_rfl))
 t3 := Tryz.underlying3
 a3 := Tryz.isAgg3
 z3 := Tryz.sizeOf3
 v3 := Tryz.zeroValue3
 t4 := Tryz.underlying4
 a4 := Tryz.isAgg4
 z4 := Tryz.sizeOf4
 v4 := Tryz.zeroValue4
 t24 := Tryz.underlying24
 a24 := Tryz.isAgg24
 z24 := Tryz.sizeOf24
 v24 := Tryz.zeroValue24
 z9 := Tryz.sizeOf66
 i9 := by kernel_rfl
 o1 := by kernel_rfl
 o2 := by kernel_rfl
 o3 := by kernel_rfl
 zl := by kernel_rfl
 zp := by omega
theorem QI4 [Wd] (R V : List (List AV)) (i : Int) (h1 : Qs R = true) (h2 : Qs V = true) (h3 : Qel R i V 64 = true) : MC Tryz.prog 218 [some (.lst 8 R), some (.lst 8 V)] [.sl 0, .i .i64 i, .sl 1] (· = .own 8 (Q2 R i V)) :=
 Qqy QUl (by omega) (EnterOK.of (fn := Tryz.f218) Tryz.func218 rfl (by decide)) h1 h2 h3
def Qzs : Go.Shelf.Ren := ⟨fun | 22 => 219 | 29 => 254 | 30 => 255 | n => n, fun | 24 => 25 | 9 => 160 | n => n, fun n => n⟩
noncomputable def QDk : Value := ((Tryz.prog.info? 160).bind (·.zero)).getD (.bool false)
theorem QTQ : InsL Tryz.prog Qzs Tryz.f219.name Tryz.f254.name 3 40 QDk where
 mixed := by kernel_rfl
 f22 := Tryz.func219.trans (congrArg some (by kernel_rfl))
 f29 := Tryz.func254.trans (congrArg some (by kernel_rfl))
 t3 := Tryz.underlying3
 a3 := Tryz.isAgg3
 z3 := Tryz.sizeOf3
 v3 := Tryz.zeroValue3
 t4 := Tryz.underlying4
 a4 := Tryz.isAgg4
 z4 := Tryz.sizeOf4
 v4 := Tryz.zeroValue4
 t24 := Tryz.underlying25
 a24 := Tryz.isAgg25
 z24 := Tryz.sizeOf25
 v24 := Tryz.zeroValue25
 z9 := Tryz.sizeOf160
 i9 := by kernel_rfl
 o1 := by kernel_rfl
 o2 := by kernel_rfl
 o3 := by kernel_rfl
 zl := by kernel_rfl
 zp := by omega
theorem QPu [Wd] (R V : List (List AV)) (i : Int) (h1 : Qs R = true) (h2 : Qs V = true) (h3 : Qel R i V 40 = true) : MC Tryz.prog 219 [some (.lst 3 R), some (.lst 3 V)] [.sl 0, .i .i64 i, .sl 1] (· = .own 3 (Q2 R i V)) :=
 Qqy QTQ (by omega) (EnterOK.of (fn := Tryz.f219) Tryz.func219 rfl (by decide)) h1 h2 h3
end Go.Proofs.YtcdffihcfeajfaaGreat
