import Derived.Test.YtponohekgnklkaaGreatInsM
import Derived.Test.YtponohekgnklkaaGreatProg
import Derived.KernelRfl
namespace Go.Proofs.YtponohekgnklkaaGreat
open Go Go.Proofs Go.Proofs.YtponohekgnklkaaGreat.Am
set_option linter.unusedVariables false
set_option maxRecDepth 100000
def QB6 : Go.Shelf.Ren := ⟨fun | 22 => 96 | 29 => 152 | 30 => 153 | n => n, fun | 24 => 28 | 9 => 80 | n => n, fun n => n⟩
noncomputable def QEm : Value := ((Tryz.prog.info? 80).bind (·.zero)).getD (.bool false)
theorem i96 : InsL Tryz.prog QB6 Tryz.f96.name Tryz.f152.name 4 32 QEm where
 mixed := by kernel_rfl
 f22 := Tryz.func96.trans (congrArg some (by kernel_rfl))
 f29 := Tryz.func152.trans (congrArg some (by kernel_rfl))
 t3 := Tryz.underlying3
 a3 := Tryz.isAgg3
 z3 := Tryz.sizeOf3
 v3 := Tryz.zeroValue3
 t4 := Tryz.underlying4
 a4 := Tryz.isAgg4
 z4 := Tryz.sizeOf4
 v4 := Tryz.zeroValue4
 t24 := Tryz.underlying28
 a24 := Tryz.isAgg28
 z24 := Tryz.sizeOf28
 v24 := Tryz.zeroValue28
 z9 := Tryz.sizeOf80
 i9 := by kernel_rfl
 o1 := by kernel_rfl
 o2 := by kernel_rfl
 o3 := by kernel_rfl
 zl := by kernel_rfl
 zp := by omega
theorem QTV [Wd] (R V : List (List AV)) (i : Int) (h1 : Qt R = true) (h2 : Qt V = true) (h3 : QdH R i V 32 = true) : MC Tryz.prog 96 [some (.lst 4 R), some (.lst 4 V)] [.sl 0, .i .i64 i, .sl 1] (· = .own 4 (Vc R i V)) :=
 Qpw i96 (by omega) (EnterOK.of (fn := Tryz.f96) Tryz.func96 rfl (by decide)) h1 h2 h3
def QyM : Go.Shelf.Ren := ⟨fun | 22 => 145 | 29 => 191 | 30 => 192 | n => n, fun | 24 => 24 | 9 => 48 | n => n, fun n => n⟩
noncomputable def QAu : Value := ((Tryz.prog.info? 48).bind (·.zero)).getD (.bool false)
theorem QQo : InsL Tryz.prog QyM Tryz.f145.name Tryz.f191.name 8 64 QAu where
 mixed := by kernel_rfl
 f22 := Tryz.func145.trans (congrArg some (by kernel_rfl))
 f29 := Tryz.func191.trans (congrArg some (by kernel_rfl))
 t3 := Tryz.underlying3
 a3 := Tryz.isAgg3
 z3 := Tryz.sizeOf3
 v3 := Tryz.zeroValue3
 t4 := Tryz.underlying4
 a4 := Tryz.isAgg4
 z4 := Tryz.sizeOf4
 v4 := Tryz.zeroValue4
 t24 := Tryz.underlying24
 a24 := Tryz.isAgg24
 z24 := Tryz.sizeOf24
 v24 := Tryz.zeroValue24
 z9 := Tryz.sizeOf48
 i9 := by kernel_rfl
 o1 := by kernel_rfl
 o2 := by kernel_rfl
 o3 := by kernel_rfl
 zl := by kernel_rfl
 zp := by omega
theorem QPl [Wd] (R V : List (List AV)) (i : Int) (h1 : Qt R = true) (h2 : Qt V = true) (h3 : QdH R i V 64 = true) : MC Tryz.prog 145 [some (.lst 8 R), some (.lst 8 V)] [.sl 0, .i .i64 i, .sl 1] (· = .own 8 (Vc R i V)) :=
 Qpw QQo (by omega) (EnterOK.of (fn := Tryz.f145) Tryz.func145 rfl (by decide)) h1 h2 h3
def QyG : Go.Shelf.Ren := ⟨fun | 22 => 146 | 29 => 193 | 30 => 194 | n => n, fun | 24 => 25 | 9 => 115 | n => n, fun n => n⟩
noncomputable def QCV : Value := ((Tryz.prog.info? 115).bind (·.zero)).getD (.bool false)
theorem QTh : InsL Tryz.prog QyG Tryz.f146.name Tryz.f193.name 3 40 QCV where
 mixed := by kernel_rfl
 f22 := Tryz.func146.trans (congrArg some (by kernel_rfl))
 f29 := Tryz.func193.trans (congrArg some (by kernel_rfl))
 t3 := Tryz.underlying3
 a3 := Tryz.isAgg3
 z3 := Tryz.sizeOf3
 v3 := Tryz.zeroValue3
 t4 := Tryz.underlying4
 a4 := Tryz.isAgg4
 z4 := Tryz.sizeOf4
 v4 := Tryz.zeroValue4
 t24 := Tryz.underlying25
 a24 := Tryz.isAgg25
 z24 := Tryz.sizeOf25
 v24 := Tryz.zeroValue25
 z9 := Tryz.sizeOf115
 i9 := by kernel_rfl
 o1 := by kernel_rfl
 o2 := by kernel_rfl
 o3 := by kernel_rfl
 zl := by kernel_rfl
 zp := by omega
theorem QID [Wd] (R V : List (List AV)) (i : Int) (h1 : Qt R = true) (h2 : Qt V = true) (h3 : QdH R i V 40 = true) : MC Tryz.prog 146 [some (.lst 3 R), some (.lst 3 V)] [.sl 0, .i .i64 i, .sl 1] (· = .own 3 (Vc R i V)) :=
 Qpw QTh (by omega) (EnterOK.of (fn := Tryz.f146) Tryz.func146 rfl (by decide)) h1 h2 h3
def QxU : Go.Shelf.Ren := ⟨fun | 22 => 151 | 29 => 196 | 30 => 197 | n => n, fun | 24 => 27 | 9 => 77 | n => n, fun n => n⟩
noncomputable def QCc : Value := ((Tryz.prog.info? 77).bind (·.zero)).getD (.bool false)
theorem QS6 : InsL Tryz.prog QxU Tryz.f151.name Tryz.f196.name 5 40 QCc where
 mixed := by kernel_rfl
 f22 := Tryz.func151.trans (congrArg some (by kernel_rfl))
 f29 := Tryz.func196.trans (congrArg some (by kernel_rfl))
 t3 := Tryz.underlying3
 a3 := Tryz.isAgg3
 z3 := Tryz.sizeOf3
 v3 := Tryz.zeroValue3
 t4 := Tryz.underlying4
 a4 := Tryz.isAgg4
 z4 := Tryz.sizeOf4
 v4 := Tryz.zeroValue4
 t24 := Tryz.underlying27
 a24 := Tryz.isAgg27
 z24 := Tryz.sizeOf27
 v24 := Tryz.zeroValue27
 z9 := Tryz.sizeOf77
 i9 := by kernel_rfl
 o1 := by kernel_rfl
 o2 := by kernel_rfl
 o3 := by kernel_rfl
 zl := by kernel_rfl
 zp := by omega
theorem QIE [Wd] (R V : List (List AV)) (i : Int) (h1 : Qt R = true) (h2 : Qt V = true) (h3 : QdH R i V 40 = true) : MC Tryz.prog 151 [some (.lst 5 R), some (.lst 5 V)] [.sl 0, .i .i64 i, .sl 1] (· = .own 5 (Vc R i V)) :=
 Qpw QS6 (by omega) (EnterOK.of (fn := Tryz.f151) Tryz.func151 rfl (by decide)) h1 h2 h3
end Go.Proofs.YtponohekgnklkaaGreat
