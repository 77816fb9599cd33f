import Derived.Test.YtcdffihcfeajfaaGreatEq4
namespace Go.Proofs.YtcdffihcfeajfaaGreat
open Go Go.Proofs Go.Proofs.YtcdffihcfeajfaaGreat.Am
set_option maxHeartbeats 4000000
set_option linter.unusedVariables false
set_option linter.unusedSimpArgs false
set_option linter.defProp false
set_option maxRecDepth 100000
variable (n : Nat)
theorem Qmj (k) : CP T (n + 1) 271 [.i .i64 k] = (Qea k).map fun r => .i .i64 r := by
 rw [Qc]
 simp -dsimp +contextual only [↓evA, eZ, Nat.reduceAdd, Nat.reduceMul, Nat.reduceBEq, Nat.reduceLeDiff, Nat.reduceLT, Tryz.func271, Tryz.f271, QSs, QCn]
 try simp only [Qea, eY]
 all_goals rfl
theorem QoV {R1 f} [H1 : EncR Qv R1 f] : CP T (n + 4) 250 [.agg R1] = (QeI f).map fun r => .i .i64 r := by
 obtain ⟨rfl⟩ := H1
 rw [Qc]
 simp -dsimp +contextual only [↓evA, eZ, Nat.reduceAdd, Nat.reduceMul, Nat.reduceBEq, Nat.reduceLeDiff, Nat.reduceLT, Tryz.func250, Tryz.f250, QSx, QBm, Qfz, Qmj]
 try simp only [QeI, eY]
 all_goals rfl
theorem Qp4 (a) {R1 f} [H1 : EncR Qv R1 f] : CP T (n + 5) 214 [.agg R1, .i .i64 a] = (QeX f a).map fun r => .b r := by
 obtain ⟨rfl⟩ := H1
 rw [Qc]
 simp -dsimp +contextual only [↓evA, eZ, Nat.reduceAdd, Nat.reduceMul, Nat.reduceBEq, Nat.reduceLeDiff, Nat.reduceLT, Tryz.func214, Tryz.f214, QSv, QBY, Qfz, QoV]
 try simp only [QeX, eY]
 all_goals rfl
theorem Qme {R1 c R2 c2} [H1 : EncR Qg R1 c] [H2 : EncR ZR R2 c2] : CP T (n + 1) 215 [.agg R1, .iptr 5 [R2] 0 0] = (Qd6 c c2).map fun r => .b r := by
 rcases H1, H2 with ⟨⟨rfl⟩, ⟨rfl⟩⟩
 rw [Qc]
 simp -dsimp +contextual only [↓evA, eZ, Nat.reduceAdd, Nat.reduceMul, Nat.reduceBEq, Nat.reduceLeDiff, Nat.reduceLT, Tryz.func215, Tryz.f215, QSR, QAG]
 try simp only [Qd6, eY]
 all_goals rfl
theorem QaF (a a2) {R1 s R2 f} [H1 : EncL Qg R1 s] [H2 : EncR ZR R2 f] : LP T (n + 2) 190 2 (frm [(0, .imm 5 R1), (1, .clo 215 [.iptr 5 [R2] 0 0]), (7, .i .i64 a), (8, .i .i64 a2)]) [] =
  VU (run (QB s f a) a2) (fun (zr : Int) => (XE.ret, frm [(4, .i .i64 zr)], [])) (fun (zr : Unit) => (XE.exit 0, frm [], [])) := by
 rcases H1, H2 with ⟨⟨rfl⟩, ⟨rfl⟩⟩
 rw [Qm]
 simp -dsimp only [↓evA, evB, Qf, Tryz.func190, Tryz.f190, QvT, Qqt, TP, TZ, Nat.reduceAdd, Nat.reduceMul, Nat.reduceBEq, Nat.reduceLeDiff, Nat.reduceLT]
 apply Ql a2
 intro a2
 simp -dsimp +contextual only [↓evA, eZ, Nat.reduceAdd, Nat.reduceMul, Nat.reduceBEq, Nat.reduceLeDiff, Nat.reduceLT, Qme]
 try simp only [QB, eY]
 all_goals rfl
theorem Qbn {R1 s R2 c} [H1 : EncL Qg R1 s] [H2 : EncR ZR R2 c] : CP T (n + 3) 190 [.imm 5 R1, .clo 215 [.iptr 5 [R2] 0 0]] = (Vt s c).map fun r => .i .i64 r := by
 rcases H1, H2 with ⟨⟨rfl⟩, ⟨rfl⟩⟩
 rw [Qc]
 simp -dsimp +contextual only [↓evA, eZ, Nat.reduceAdd, Nat.reduceMul, Nat.reduceBEq, Nat.reduceLeDiff, Nat.reduceLT, Tryz.func190, Tryz.f190, QvT, Qqt, QaF]
 try simp only [Vt, eY]
 all_goals rfl
theorem Qax {R1 s R2 c} [H1 : EncL Qg R1 s] [H2 : EncR ZR R2 c] : CP T (n + 4) 199 [.imm 5 R1, .clo 215 [.iptr 5 [R2] 0 0]] = (QU s c).map fun r => .b r := by
 rcases H1, H2 with ⟨⟨rfl⟩, ⟨rfl⟩⟩
 rw [Qc]
 simp -dsimp +contextual only [↓evA, eZ, Nat.reduceAdd, Nat.reduceMul, Nat.reduceBEq, Nat.reduceLeDiff, Nat.reduceLT, Tryz.func199, Tryz.f199, QHN, Qym, Qbn]
 try simp only [QU, eY]
 all_goals rfl
theorem Qip (a) {R1 f R2 l} [H1 : EncR Qv R1 f] [H2 : EncL Qg R2 l] : CP T (n + 6) 128 [.agg R1, .imm 5 R2, .i .i64 a] = (Qc2 f l a).map fun r => .i .i64 r := by
 rcases H1, H2 with ⟨⟨rfl⟩, ⟨rfl⟩⟩
 rw [Qc]
 simp -dsimp +contextual only [↓evA, eZ, Nat.reduceAdd, Nat.reduceMul, Nat.reduceBEq, Nat.reduceLeDiff, Nat.reduceLT, Tryz.func128, Tryz.f128, QSl, QB9, QeZ, Qp4, Qax]
 try simp only [Qc2, eY]
 all_goals rfl
theorem Qhj (c a3 a5 a6) {R1 a R2 a2 R3 a4} [H1 : EncL Vf R1 a] [H2 : EncL Vf R2 a2] [H3 : EncL Vf R3 a4] : LP T (n + 2) 227 6 (frm [(0, .i .i64 c), (1, .imm 1 R1), (5, .sl 0), (6, .i .i64 a3), (25, .imm 1 R3), (26, .i .i64 a5), (27, .i .i64 a6)]) [some (Ent.lst 1 R2)] =
  VU (run (XM c a a2 a4 a5) (a3, a6)) (fun (zr : (List Int)) => (XE.ret, frm [(4, .sl 0)], [some (Ent.lst 1 (zr.map Vf))])) (fun (zr : Int) => (XE.exit 0, frm [(0, .i .i64 c), (1, .imm 1 (a.map Vf)), (5, .sl 0), (6, .i .i64 zr)], [some (Ent.lst 1 (a2.map Vf))])) := by
 rcases H1, H2, H3 with ⟨⟨rfl⟩, ⟨rfl⟩, ⟨rfl⟩⟩
 rw [Qm]
 simp -dsimp only [↓evA, evB, Qf, Tryz.func227, Tryz.f227, Qz1, QtF, TP, TZ, Nat.reduceAdd, Nat.reduceMul, Nat.reduceBEq, Nat.reduceLeDiff, Nat.reduceLT]
 apply QH a3 a6
 intro a3 a6
 simp -dsimp +contextual only [↓evA, eZ, Nat.reduceAdd, Nat.reduceMul, Nat.reduceBEq, Nat.reduceLeDiff, Nat.reduceLT, QV]
 try simp only [XM, eY]
 all_goals rfl
theorem QgM (c a2 a3 a5 a6) {R1 a R2 a4} [H1 : EncL Vf R1 a] [H2 : EncL Vf R2 a4] : LP T (n + 1) 227 16 (frm [(0, .i .i64 c), (5, .sl 0), (6, .i .i64 a2), (9, .i .i64 a3), (43, .imm 1 R2), (44, .i .i64 a5), (45, .i .i64 a6)]) [some (Ent.lst 1 R1)] =
  (run (VT c a2 a4 a5) (a, a3, a6)).map (fun (zr : (List Int) × Int) => (XE.exit 2, frm [(5, .sl 0), (9, .i .i64 zr.2)], [some (Ent.lst 1 (zr.1.map Vf))])) := by
 rcases H1, H2 with ⟨⟨rfl⟩, ⟨rfl⟩⟩
 rw [Qm]
 simp -dsimp only [↓evA, evB, Qf, Tryz.func227, Tryz.f227, Qz1, QtF, TP, TZ, Nat.reduceAdd, Nat.reduceMul, Nat.reduceBEq, Nat.reduceLeDiff, Nat.reduceLT]
 apply Za a a3 a6
 intro a a3 a6
 simp -dsimp +contextual only [↓evA, eZ, Nat.reduceAdd, Nat.reduceMul, Nat.reduceBEq, Nat.reduceLeDiff, Nat.reduceLT]
 try simp only [VT, eY]
 all_goals rfl
theorem QgI (a2 a3) {R1 a} [H1 : EncL Vf R1 a] : LP T (n + 1) 227 23 (frm [(5, .sl 0), (9, .i .i64 a2), (13, .i .i64 a3)]) [some (Ent.lst 1 R1)] =
  (run Xu (a, a2, a3)).map (fun (zr : (List Int)) => (XE.exit 4, frm [(5, .sl 0)], [some (Ent.lst 1 (zr.map Vf))])) := by
 obtain ⟨rfl⟩ := H1
 rw [Qm]
 simp -dsimp only [↓evA, evB, Qf, Tryz.func227, Tryz.f227, Qz1, QtF, TP, TZ, Nat.reduceAdd, Nat.reduceMul, Nat.reduceBEq, Nat.reduceLeDiff, Nat.reduceLT]
 apply Za a a2 a3
 intro a a2 a3
 simp -dsimp +contextual only [↓evA, eZ, Nat.reduceAdd, Nat.reduceMul, Nat.reduceBEq, Nat.reduceLeDiff, Nat.reduceLT]
 try simp only [Xu, eY]
 all_goals rfl
theorem Qji (c) {R1 a} [H1 : EncL Vf R1 a] : CP T (n + 3) 227 [.i .i64 c, .imm 1 R1] = (Qa6 c a).map fun r => .own 1 (r.map Vf) := by
 obtain ⟨rfl⟩ := H1
 rw [Qc]
 simp -dsimp +contextual only [↓evA, eZ, Nat.reduceAdd, Nat.reduceMul, Nat.reduceBEq, Nat.reduceLeDiff, Nat.reduceLT, Tryz.func227, Tryz.f227, Qz1, QtF, QV, Qhj, QgM, QgI]
 try simp only [Qa6, eY]
 all_goals first | rfl | (simp +contextual only [evN] <;> rfl)
theorem QnY (p f) : CP T (n + 4) 144 [.i .i64 p, .i .i64 f] = (Qdz p f).map fun r => .own 2 (r.map Qiz) := by
 rw [Qc]
 simp -dsimp +contextual only [↓evA, eZ, Nat.reduceAdd, Nat.reduceMul, Nat.reduceBEq, Nat.reduceLeDiff, Nat.reduceLT, Tryz.func144, Tryz.f144, QTn, QCk, QV, Qji]
 try simp only [Qdz, eY]
 all_goals first | rfl | (simp +contextual only [evN] <;> rfl)
theorem Ql7 (a2) {R1 a R2 a3} [H1 : EncR QD R1 a] [H2 : EncL Vu R2 a3] : CP T (n + 13) 44 [.agg R1, .i .i64 a2, .imm 3 R2] = (Qcr a a2 a3).map fun r => .tup [.agg (VG r.1), .b r.2] := by
 rcases H1, H2 with ⟨⟨rfl⟩, ⟨rfl⟩⟩
 rw [Qc]
 simp -dsimp +contextual (maxSteps := 100000000) only [↓evA, eZ, Nat.reduceAdd, Nat.reduceMul, Nat.reduceBEq, Nat.reduceLeDiff, Nat.reduceLT, Tryz.func44, Tryz.f44, a44, n44, srt, QfC, Qpi, Qip, Vh, Qfv, Qgp, QnY, Qab]
 try simp only [Qcr, eY]
 all_goals rfl
theorem Qli {R1 a R2 o R3 d} [H1 : EncR QD R1 a] [H2 : EncR QD R2 o] [H3 : EncL c_b R3 d] : CM T (n + 12) 100 [some (Ent.lst 1 R3)] [.agg R1, .agg R2, .sl 0] = (Z7 a o d).map fun r => .tup [.agg (VG r.1), .b r.2] := by
 rcases H1, H2, H3 with ⟨⟨rfl⟩, ⟨rfl⟩, ⟨rfl⟩⟩
 rw [Qpr]
 simp -dsimp +contextual (maxSteps := 100000000) only [↓evA, eZ, Nat.reduceAdd, Nat.reduceMul, Nat.reduceBEq, Nat.reduceLeDiff, Nat.reduceLT, Tryz.func100, Tryz.f100, QFf, Qvt, QaD, Qaj, Vh]
 try simp only [Z7, eY]
 all_goals rfl
theorem QlK (a2) {R1 a} [H1 : EncR QD R1 a] : CP T (n + 13) 33 [.agg R1, .i .i64 a2] = (QbQ a a2).map fun r => .tup [.agg (VG r.1), .b r.2] := by
 obtain ⟨rfl⟩ := H1
 rw [Qc]
 simp -dsimp +contextual (maxSteps := 100000000) only [↓evA, eZ, Nat.reduceAdd, Nat.reduceMul, Nat.reduceBEq, Nat.reduceLeDiff, Nat.reduceLT, Tryz.func33, Tryz.f33, a33, n33, srt, QfC, Vh, Qip, Qfv, Qab, Qli]
 try simp only [QbQ, eY]
 all_goals rfl
theorem Qmo (a2) {R1 a} [H1 : EncR QD R1 a] : CP T (n + 13) 25 [.agg R1, .i .i64 a2] = (Qcp a a2).map fun r => .tup [.agg (VG r.1), .b r.2] := by
 obtain ⟨rfl⟩ := H1
 rw [Qc]
 simp -dsimp +contextual (maxSteps := 100000000) only [↓evA, eZ, Nat.reduceAdd, Nat.reduceMul, Nat.reduceBEq, Nat.reduceLeDiff, Nat.reduceLT, Tryz.func25, Tryz.f25, a25, n25, srt, Vh, QV, Qab]
 try simp only [Qcp, eY]
 all_goals rfl
theorem QjR {R1 a R2 a2} [H1 : EncR QD R1 a] [H2 : EncR QdZ R2 a2] : CP T (n + 14) 50 [.agg R1, .agg R2] = (Zk a a2).map fun r => .tup [.agg (VG r.1), .b r.2] := by
 rcases H1, H2 with ⟨⟨rfl⟩, ⟨rfl⟩⟩
 rw [Qc]
 simp -dsimp +contextual (maxSteps := 100000000) only [↓evA, eZ, Nat.reduceAdd, Nat.reduceMul, Nat.reduceBEq, Nat.reduceLeDiff, Nat.reduceLT, Tryz.func50, Tryz.f50, a50, n50, Qmx, Qlm, QjX, QlE, Ql7, QlK, Qmo, Vh]
 try simp only [Zk, eY]
 all_goals rfl
theorem Qn9 {R1 a R2 b} [H1 : EncR ZR R1 a] [H2 : EncR ZR R2 b] : CP T (n + 1) 228 [.agg R1, .agg R2] = (QdI a b).map fun r => .b r := by
 rcases H1, H2 with ⟨⟨rfl⟩, ⟨rfl⟩⟩
 rw [Qc]
 simp -dsimp +contextual only [↓evA, eZ, Nat.reduceAdd, Nat.reduceMul, Nat.reduceBEq, Nat.reduceLeDiff, Nat.reduceLT, Tryz.func228, Tryz.f228, a228, QA1]
 try simp only [QdI, eY]
 all_goals rfl
theorem Qit {R1 a R2 b} [H1 : EncR Qv R1 a] [H2 : EncR Qv R2 b] : CP T (n + 2) 146 [.agg R1, .agg R2] = (QcW a b).map fun r => .b r := by
 rcases H1, H2 with ⟨⟨rfl⟩, ⟨rfl⟩⟩
 rw [Qc]
 simp -dsimp +contextual only [↓evA, eZ, Nat.reduceAdd, Nat.reduceMul, Nat.reduceBEq, Nat.reduceLeDiff, Nat.reduceLT, Tryz.func146, Tryz.f146, QUq, QAY, Qn9]
 try simp only [QcW, eY]
 all_goals rfl
theorem Qj3 (i) {R1 a R2 b} [H1 : EncL Qv R1 a] [H2 : EncL Qv R2 b] : LP T (n + 3) 65 4 (frm [(0, .imm 8 R1), (1, .imm 8 R2), (5, .i .i64 i)]) [] =
  VU (run (Zq a b) i) (fun (zr : Bool) => (XE.ret, frm [(4, .b zr)], [])) (fun (zr : Unit) => (XE.exit 0, frm [], [])) := by
 rcases H1, H2 with ⟨⟨rfl⟩, ⟨rfl⟩⟩
 rw [Qm]
 simp -dsimp only [↓evA, evB, Qf, Tryz.func65, Tryz.f65, a65, n65, TP, TZ, Nat.reduceAdd, Nat.reduceMul, Nat.reduceBEq, Nat.reduceLeDiff, Nat.reduceLT]
 apply Ql i
 intro i
 simp -dsimp +contextual only [↓evA, eZ, Nat.reduceAdd, Nat.reduceMul, Nat.reduceBEq, Nat.reduceLeDiff, Nat.reduceLT, Qit]
 try simp only [Zq, eY]
 all_goals rfl
theorem Qnb {R1 a R2 b} [H1 : EncL Qv R1 a] [H2 : EncL Qv R2 b] : CP T (n + 4) 65 [.imm 8 R1, .imm 8 R2] = (QdH a b).map fun r => .b r := by
 rcases H1, H2 with ⟨⟨rfl⟩, ⟨rfl⟩⟩
 rw [Qc]
 simp -dsimp +contextual only [↓evA, eZ, Nat.reduceAdd, Nat.reduceMul, Nat.reduceBEq, Nat.reduceLeDiff, Nat.reduceLT, Tryz.func65, Tryz.f65, a65, n65, Qj3]
 try simp only [QdH, eY]
 all_goals rfl
theorem Qpk {R1 a R2 b} [H1 : EncR Q9 R1 a] [H2 : EncR Q9 R2 b] : CP T (n + 1) 139 [.agg R1, .agg R2] = (Qei a b).map fun r => .b r := by
 rcases H1, H2 with ⟨⟨rfl⟩, ⟨rfl⟩⟩
 rw [Qc]
 simp -dsimp +contextual only [↓evA, eZ, Nat.reduceAdd, Nat.reduceMul, Nat.reduceBEq, Nat.reduceLeDiff, Nat.reduceLT, Tryz.func139, Tryz.f139, QTr, QCY]
 try simp only [Qei, eY]
 all_goals rfl
theorem QjL (i) {R1 a R2 b} [H1 : EncL Q9 R1 a] [H2 : EncL Q9 R2 b] : LP T (n + 2) 39 4 (frm [(0, .imm 2 R1), (1, .imm 2 R2), (5, .i .i64 i)]) [] =
  VU (run (Zp a b) i) (fun (zr : Bool) => (XE.ret, frm [(4, .b zr)], [])) (fun (zr : Unit) => (XE.exit 0, frm [], [])) := by
 rcases H1, H2 with ⟨⟨rfl⟩, ⟨rfl⟩⟩
 rw [Qm]
 simp -dsimp only [↓evA, evB, Qf, Tryz.func39, Tryz.f39, a39, n39, TP, TZ, Nat.reduceAdd, Nat.reduceMul, Nat.reduceBEq, Nat.reduceLeDiff, Nat.reduceLT]
 apply Ql i
 intro i
 simp -dsimp +contextual only [↓evA, eZ, Nat.reduceAdd, Nat.reduceMul, Nat.reduceBEq, Nat.reduceLeDiff, Nat.reduceLT, Qpk]
 try simp only [Zp, eY]
 all_goals rfl
theorem QgU {R1 a R2 b} [H1 : EncL Q9 R1 a] [H2 : EncL Q9 R2 b] : CP T (n + 3) 39 [.imm 2 R1, .imm 2 R2] = (QbW a b).map fun r => .b r := by
 rcases H1, H2 with ⟨⟨rfl⟩, ⟨rfl⟩⟩
 rw [Qc]
 simp -dsimp +contextual only [↓evA, eZ, Nat.reduceAdd, Nat.reduceMul, Nat.reduceBEq, Nat.reduceLeDiff, Nat.reduceLT, Tryz.func39, Tryz.f39, a39, n39, QjL]
 try simp only [QbW, eY]
 all_goals rfl
theorem Qma {R1 a R2 b} [H1 : EncR QC R1 a] [H2 : EncR QC R2 b] : CP T (n + 4) 165 [.agg R1, .agg R2] = (Qcv a b).map fun r => .b r := by
 rcases H1, H2 with ⟨⟨rfl⟩, ⟨rfl⟩⟩
 rw [Qc]
 simp -dsimp +contextual only [↓evA, eZ, Nat.reduceAdd, Nat.reduceMul, Nat.reduceBEq, Nat.reduceLeDiff, Nat.reduceLT, Tryz.func165, Tryz.f165, QTZ, QAV, QgU]
 try simp only [Qcv, eY]
 all_goals rfl
theorem QhT (i) {R1 a R2 b} [H1 : EncL QC R1 a] [H2 : EncL QC R2 b] : LP T (n + 5) 66 4 (frm [(0, .imm 3 R1), (1, .imm 3 R2), (5, .i .i64 i)]) [] =
  VU (run (Jo a b) i) (fun (zr : Bool) => (XE.ret, frm [(4, .b zr)], [])) (fun (zr : Unit) => (XE.exit 0, frm [], [])) := by
 rcases H1, H2 with ⟨⟨rfl⟩, ⟨rfl⟩⟩
 rw [Qm]
 simp -dsimp only [↓evA, evB, Qf, Tryz.func66, Tryz.f66, a66, n66, TP, TZ, Nat.reduceAdd, Nat.reduceMul, Nat.reduceBEq, Nat.reduceLeDiff, Nat.reduceLT]
 apply Ql i
 intro i
 simp -dsimp +contextual only [↓evA, eZ, Nat.reduceAdd, Nat.reduceMul, Nat.reduceBEq, Nat.reduceLeDiff, Nat.reduceLT, Qma]
 try simp only [Jo, eY]
 all_goals rfl
theorem QkT {R1 a R2 b} [H1 : EncL QC R1 a] [H2 : EncL QC R2 b] : CP T (n + 6) 66 [.imm 3 R1, .imm 3 R2] = (QbM a b).map fun r => .b r := by
 rcases H1, H2 with ⟨⟨rfl⟩, ⟨rfl⟩⟩
 rw [Qc]
 simp -dsimp +contextual only [↓evA, eZ, Nat.reduceAdd, Nat.reduceMul, Nat.reduceBEq, Nat.reduceLeDiff, Nat.reduceLT, Tryz.func66, Tryz.f66, a66, n66, QhT]
 try simp only [QbM, eY]
 all_goals rfl
theorem Qo5 {R1 a R2 b} [H1 : EncR QP R1 a] [H2 : EncR QP R2 b] : CP T (n + 1) 71 [.agg R1, .agg R2] = (Qec a b).map fun r => .b r := by
 rcases H1, H2 with ⟨⟨rfl⟩, ⟨rfl⟩⟩
 rw [Qc]
 simp -dsimp +contextual only [↓evA, eZ, Nat.reduceAdd, Nat.reduceMul, Nat.reduceBEq, Nat.reduceLeDiff, Nat.reduceLT, Tryz.func71, Tryz.f71, a71, n71]
 try simp only [Qec, eY]
 all_goals rfl
theorem QjN (i) {R1 a R2 b} [H1 : EncL QP R1 a] [H2 : EncL QP R2 b] : LP T (n + 2) 18 4 (frm [(0, .imm 3 R1), (1, .imm 3 R2), (5, .i .i64 i)]) [] =
  VU (run (Zj a b) i) (fun (zr : Bool) => (XE.ret, frm [(4, .b zr)], [])) (fun (zr : Unit) => (XE.exit 0, frm [], [])) := by
 rcases H1, H2 with ⟨⟨rfl⟩, ⟨rfl⟩⟩
 rw [Qm]
 simp -dsimp only [↓evA, evB, Qf, Tryz.func18, Tryz.f18, a18, n18, TP, TZ, Nat.reduceAdd, Nat.reduceMul, Nat.reduceBEq, Nat.reduceLeDiff, Nat.reduceLT]
 apply Ql i
 intro i
 simp -dsimp +contextual only [↓evA, eZ, Nat.reduceAdd, Nat.reduceMul, Nat.reduceBEq, Nat.reduceLeDiff, Nat.reduceLT, Qo5]
 try simp only [Zj, eY]
 all_goals rfl
theorem Qnx {R1 a R2 b} [H1 : EncL QP R1 a] [H2 : EncL QP R2 b] : CP T (n + 3) 18 [.imm 3 R1, .imm 3 R2] = (Qdl a b).map fun r => .b r := by
 rcases H1, H2 with ⟨⟨rfl⟩, ⟨rfl⟩⟩
 rw [Qc]
 simp -dsimp +contextual only [↓evA, eZ, Nat.reduceAdd, Nat.reduceMul, Nat.reduceBEq, Nat.reduceLeDiff, Nat.reduceLT, Tryz.func18, Tryz.f18, a18, n18, QjN]
 try simp only [Qdl, eY]
 all_goals rfl
theorem Qnq {R1 a R2 b} [H1 : EncR Qg R1 a] [H2 : EncR Qg R2 b] : CP T (n + 1) 166 [.agg R1, .agg R2] = (Qdm a b).map fun r => .b r := by
 rcases H1, H2 with ⟨⟨rfl⟩, ⟨rfl⟩⟩
 rw [Qc]
 simp -dsimp +contextual only [↓evA, eZ, Nat.reduceAdd, Nat.reduceMul, Nat.reduceBEq, Nat.reduceLeDiff, Nat.reduceLT, Tryz.func166, Tryz.f166, QPL, QBb]
 try simp only [Qdm, eY]
 all_goals rfl
theorem QiP (i) {R1 a R2 b} [H1 : EncL Qg R1 a] [H2 : EncL Qg R2 b] : LP T (n + 2) 67 4 (frm [(0, .imm 5 R1), (1, .imm 5 R2), (5, .i .i64 i)]) [] =
  VU (run (JS a b) i) (fun (zr : Bool) => (XE.ret, frm [(4, .b zr)], [])) (fun (zr : Unit) => (XE.exit 0, frm [], [])) := by
 rcases H1, H2 with ⟨⟨rfl⟩, ⟨rfl⟩⟩
 rw [Qm]
 simp -dsimp only [↓evA, evB, Qf, Tryz.func67, Tryz.f67, a67, n67, TP, TZ, Nat.reduceAdd, Nat.reduceMul, Nat.reduceBEq, Nat.reduceLeDiff, Nat.reduceLT]
 apply Ql i
 intro i
 simp -dsimp +contextual only [↓evA, eZ, Nat.reduceAdd, Nat.reduceMul, Nat.reduceBEq, Nat.reduceLeDiff, Nat.reduceLT, Qnq]
 try simp only [JS, eY]
 all_goals rfl
theorem Qmz {R1 a R2 b} [H1 : EncL Qg R1 a] [H2 : EncL Qg R2 b] : CP T (n + 3) 67 [.imm 5 R1, .imm 5 R2] = (Qcx a b).map fun r => .b r := by
 rcases H1, H2 with ⟨⟨rfl⟩, ⟨rfl⟩⟩
 rw [Qc]
 simp -dsimp +contextual only [↓evA, eZ, Nat.reduceAdd, Nat.reduceMul, Nat.reduceBEq, Nat.reduceLeDiff, Nat.reduceLT, Tryz.func67, Tryz.f67, a67, n67, QiP]
 try simp only [Qcx, eY]
 all_goals rfl
theorem QoL {R1 a R2 b} [H1 : EncR QJ R1 a] [H2 : EncR QJ R2 b] : CP T (n + 1) 167 [.agg R1, .agg R2] = (QdD a b).map fun r => .b r := by
 rcases H1, H2 with ⟨⟨rfl⟩, ⟨rfl⟩⟩
 rw [Qc]
 simp -dsimp +contextual only [↓evA, eZ, Nat.reduceAdd, Nat.reduceMul, Nat.reduceBEq, Nat.reduceLeDiff, Nat.reduceLT, Tryz.func167, Tryz.f167, QUA, QAw]
 try simp only [QdD, eY]
 all_goals rfl
theorem QiR (i) {R1 a R2 b} [H1 : EncL QJ R1 a] [H2 : EncL QJ R2 b] : LP T (n + 2) 68 4 (frm [(0, .imm 4 R1), (1, .imm 4 R2), (5, .i .i64 i)]) [] =
  VU (run (JV a b) i) (fun (zr : Bool) => (XE.ret, frm [(4, .b zr)], [])) (fun (zr : Unit) => (XE.exit 0, frm [], [])) := by
 rcases H1, H2 with ⟨⟨rfl⟩, ⟨rfl⟩⟩
 rw [Qm]
 simp -dsimp only [↓evA, evB, Qf, Tryz.func68, Tryz.f68, a68, n68, TP, TZ, Nat.reduceAdd, Nat.reduceMul, Nat.reduceBEq, Nat.reduceLeDiff, Nat.reduceLT]
 apply Ql i
 intro i
 simp -dsimp +contextual only [↓evA, eZ, Nat.reduceAdd, Nat.reduceMul, Nat.reduceBEq, Nat.reduceLeDiff, Nat.reduceLT, QoL]
 try simp only [JV, eY]
 all_goals rfl
theorem Qmm {R1 a R2 b} [H1 : EncL QJ R1 a] [H2 : EncL QJ R2 b] : CP T (n + 3) 68 [.imm 4 R1, .imm 4 R2] = (Qct a b).map fun r => .b r := by
 rcases H1, H2 with ⟨⟨rfl⟩, ⟨rfl⟩⟩
 rw [Qc]
 simp -dsimp +contextual only [↓evA, eZ, Nat.reduceAdd, Nat.reduceMul, Nat.reduceBEq, Nat.reduceLeDiff, Nat.reduceLT, Tryz.func68, Tryz.f68, a68, n68, QiR]
 try simp only [Qct, eY]
 all_goals rfl
theorem Qph {R1 a R2 b} [H1 : EncR Va R1 a] [H2 : EncR Va R2 b] : CP T (n + 1) 168 [.agg R1, .agg R2] = (Qeg a b).map fun r => .b r := by
 rcases H1, H2 with ⟨⟨rfl⟩, ⟨rfl⟩⟩
 rw [Qc]
 simp -dsimp +contextual only [↓evA, eZ, Nat.reduceAdd, Nat.reduceMul, Nat.reduceBEq, Nat.reduceLeDiff, Nat.reduceLT, Tryz.func168, Tryz.f168, QPY, QAl]
 try simp only [Qeg, eY]
 all_goals rfl
theorem Qjg (i) {R1 a R2 b} [H1 : EncL Va R1 a] [H2 : EncL Va R2 b] : LP T (n + 2) 69 4 (frm [(0, .imm 5 R1), (1, .imm 5 R2), (5, .i .i64 i)]) [] =
  VU (run (Zv a b) i) (fun (zr : Bool) => (XE.ret, frm [(4, .b zr)], [])) (fun (zr : Unit) => (XE.exit 0, frm [], [])) := by
 rcases H1, H2 with ⟨⟨rfl⟩, ⟨rfl⟩⟩
 rw [Qm]
 simp -dsimp only [↓evA, evB, Qf, Tryz.func69, Tryz.f69, a69, n69, TP, TZ, Nat.reduceAdd, Nat.reduceMul, Nat.reduceBEq, Nat.reduceLeDiff, Nat.reduceLT]
 apply Ql i
 intro i
 simp -dsimp +contextual only [↓evA, eZ, Nat.reduceAdd, Nat.reduceMul, Nat.reduceBEq, Nat.reduceLeDiff, Nat.reduceLT, Qph]
 try simp only [Zv, eY]
 all_goals rfl
theorem Qoy {R1 a R2 b} [H1 : EncL Va R1 a] [H2 : EncL Va R2 b] : CP T (n + 3) 69 [.imm 5 R1, .imm 5 R2] = (Qdy a b).map fun r => .b r := by
 rcases H1, H2 with ⟨⟨rfl⟩, ⟨rfl⟩⟩
 rw [Qc]
 simp -dsimp +contextual only [↓evA, eZ, Nat.reduceAdd, Nat.reduceMul, Nat.reduceBEq, Nat.reduceLeDiff, Nat.reduceLT, Tryz.func69, Tryz.f69, a69, n69, Qjg]
 try simp only [Qdy, eY]
 all_goals rfl
theorem QnG {R1 a R2 b} [H1 : EncR QX R1 a] [H2 : EncR QX R2 b] : CP T (n + 1) 169 [.agg R1, .agg R2] = (QdM a b).map fun r => .b r := by
 rcases H1, H2 with ⟨⟨rfl⟩, ⟨rfl⟩⟩
 rw [Qc]
 simp -dsimp +contextual only [↓evA, eZ, Nat.reduceAdd, Nat.reduceMul, Nat.reduceBEq, Nat.reduceLeDiff, Nat.reduceLT, Tryz.func169, Tryz.f169, QQB, QB3]
 try simp only [QdM, eY]
 all_goals rfl
theorem QiW (i) {R1 a R2 b} [H1 : EncL QX R1 a] [H2 : EncL QX R2 b] : LP T (n + 2) 70 4 (frm [(0, .imm 4 R1), (1, .imm 4 R2), (5, .i .i64 i)]) [] =
  VU (run (J7 a b) i) (fun (zr : Bool) => (XE.ret, frm [(4, .b zr)], [])) (fun (zr : Unit) => (XE.exit 0, frm [], [])) := by
 rcases H1, H2 with ⟨⟨rfl⟩, ⟨rfl⟩⟩
 rw [Qm]
 simp -dsimp only [↓evA, evB, Qf, Tryz.func70, Tryz.f70, a70, n70, TP, TZ, Nat.reduceAdd, Nat.reduceMul, Nat.reduceBEq, Nat.reduceLeDiff, Nat.reduceLT]
 apply Ql i
 intro i
 simp -dsimp +contextual only [↓evA, eZ, Nat.reduceAdd, Nat.reduceMul, Nat.reduceBEq, Nat.reduceLeDiff, Nat.reduceLT, QnG]
 try simp only [J7, eY]
 all_goals rfl
theorem Qml {R1 a R2 b} [H1 : EncL QX R1 a] [H2 : EncL QX R2 b] : CP T (n + 3) 70 [.imm 4 R1, .imm 4 R2] = (QcG a b).map fun r => .b r := by
 rcases H1, H2 with ⟨⟨rfl⟩, ⟨rfl⟩⟩
 rw [Qc]
 simp -dsimp +contextual only [↓evA, eZ, Nat.reduceAdd, Nat.reduceMul, Nat.reduceBEq, Nat.reduceLeDiff, Nat.reduceLT, Tryz.func70, Tryz.f70, a70, n70, QiW]
 try simp only [QcG, eY]
 all_goals rfl
theorem Qol {R1 a R2 b} [H1 : EncR QD R1 a] [H2 : EncR QD R2 b] : CP T (n + 7) 17 [.agg R1, .agg R2] = (ZD a b).map fun r => .b r := by
 rcases H1, H2 with ⟨⟨rfl⟩, ⟨rfl⟩⟩
 rw [Qc]
 simp -dsimp +contextual (maxSteps := 100000000) only [↓evA, eZ, Nat.reduceAdd, Nat.reduceMul, Nat.reduceBEq, Nat.reduceLeDiff, Nat.reduceLT, Tryz.func17, Tryz.f17, a17, n17, Qnb, QkT, Qnx, Qmz, Qmm, Qoy, Qml]
 try simp only [ZD, eY]
 all_goals rfl
theorem Qqb {R1 a R2 b} [H1 : EncR Vu R1 a] [H2 : EncR Vu R2 b] : CP T (n + 1) 145 [.agg R1, .agg R2] = (QeS a b).map fun r => .b r := by
 rcases H1, H2 with ⟨⟨rfl⟩, ⟨rfl⟩⟩
 rw [Qc]
 simp -dsimp +contextual only [↓evA, eZ, Nat.reduceAdd, Nat.reduceMul, Nat.reduceBEq, Nat.reduceLeDiff, Nat.reduceLT, Tryz.func145, Tryz.f145, QUT, QB2]
 try simp only [QeS, eY]
 all_goals rfl
theorem Qlu (i) {R1 a R2 b} [H1 : EncL Vu R1 a] [H2 : EncL Vu R2 b] : LP T (n + 2) 45 4 (frm [(0, .imm 3 R1), (1, .imm 3 R2), (5, .i .i64 i)]) [] =
  VU (run (Qah a b) i) (fun (zr : Bool) => (XE.ret, frm [(4, .b zr)], [])) (fun (zr : Unit) => (XE.exit 0, frm [], [])) := by
 rcases H1, H2 with ⟨⟨rfl⟩, ⟨rfl⟩⟩
 rw [Qm]
 simp -dsimp only [↓evA, evB, Qf, Tryz.func45, Tryz.f45, a45, n45, TP, TZ, Nat.reduceAdd, Nat.reduceMul, Nat.reduceBEq, Nat.reduceLeDiff, Nat.reduceLT]
 apply Ql i
 intro i
 simp -dsimp +contextual only [↓evA, eZ, Nat.reduceAdd, Nat.reduceMul, Nat.reduceBEq, Nat.reduceLeDiff, Nat.reduceLT, Qqb]
 try simp only [Qah, eY]
 all_goals rfl
theorem Qo1 {R1 a R2 b} [H1 : EncL Vu R1 a] [H2 : EncL Vu R2 b] : CP T (n + 3) 45 [.imm 3 R1, .imm 3 R2] = (Qeq a b).map fun r => .b r := by
 rcases H1, H2 with ⟨⟨rfl⟩, ⟨rfl⟩⟩
 rw [Qc]
 simp -dsimp +contextual only [↓evA, eZ, Nat.reduceAdd, Nat.reduceMul, Nat.reduceBEq, Nat.reduceLeDiff, Nat.reduceLT, Tryz.func45, Tryz.f45, a45, n45, Qlu]
 try simp only [Qeq, eY]
 all_goals rfl
theorem QnF {R1 a R2 b} [H1 : EncR QdZ R1 a] [H2 : EncR QdZ R2 b] : CP T (n + 4) 51 [.agg R1, .agg R2] = (Qdv a b).map fun r => .b r := by
 rcases H1, H2 with ⟨⟨rfl⟩, ⟨rfl⟩⟩
 rw [Qc]
 simp -dsimp +contextual only [↓evA, eZ, Nat.reduceAdd, Nat.reduceMul, Nat.reduceBEq, Nat.reduceLeDiff, Nat.reduceLT, Tryz.func51, Tryz.f51, a51, n51, Qit, QgU, Qo1]
 try simp only [Qdv, eY]
 all_goals rfl
theorem Qh3 (a2 a3) {R1 a} [H1 : EncL Qv R1 a] : LP T (n + 1) 72 2 (frm [(0, .sl 0), (1, .i .i64 a2), (5, .i .i64 a3)]) [some (Ent.lst 8 R1)] =
  (run X8 (a, a2, a3)).map (fun (zr : (List Find) × Int) => (XE.exit 0, frm [(0, .sl 0), (1, .i .i64 zr.2)], [some (Ent.lst 8 (zr.1.map Qv))])) := by
 obtain ⟨rfl⟩ := H1
 rw [Qm]
 simp -dsimp only [↓evA, evB, Qf, Tryz.func72, Tryz.f72, a72, n72, TP, TZ, Nat.reduceAdd, Nat.reduceMul, Nat.reduceBEq, Nat.reduceLeDiff, Nat.reduceLT]
 apply Za a a2 a3
 intro a a2 a3
 simp -dsimp +contextual only [↓evA, eZ, Nat.reduceAdd, Nat.reduceMul, Nat.reduceBEq, Nat.reduceLeDiff, Nat.reduceLT]
 try simp only [X8, eY]
 all_goals rfl
theorem QlI (a2) {R1 a} [H1 : EncL Qv R1 a] : CA T (n + 2) 72 [some (Ent.lst 8 R1)] [.sl 0, .i .i64 a2] = (QbO a a2).map fun r => (.i .i64 r.2, [some (Ent.lst 8 (r.1.map Qv))]) := by
 obtain ⟨rfl⟩ := H1
 rw [Qfd]
 simp -dsimp +contextual only [↓evA, eZ, Nat.reduceAdd, Nat.reduceMul, Nat.reduceBEq, Nat.reduceLeDiff, Nat.reduceLT, Tryz.func72, Tryz.f72, a72, n72, Qh3]
 try simp only [QbO, eY]
 all_goals rfl
theorem QhX (k i) {R1 a} [H1 : EncL Q9 R1 a] : LP T (n + 1) 40 2 (frm [(0, .sl 0), (1, .i .i64 k), (5, .i .i64 i)]) [some (Ent.lst 2 R1)] =
  (run Ja (a, k, i)).map (fun (zr : (List Mark) × Int) => (XE.exit 0, frm [(0, .sl 0), (1, .i .i64 zr.2)], [some (Ent.lst 2 (zr.1.map Q9))])) := by
 obtain ⟨rfl⟩ := H1
 rw [Qm]
 simp -dsimp only [↓evA, evB, Qf, Tryz.func40, Tryz.f40, a40, n40, TP, TZ, Nat.reduceAdd, Nat.reduceMul, Nat.reduceBEq, Nat.reduceLeDiff, Nat.reduceLT]
 apply Za a k i
 intro a k i
 simp -dsimp +contextual only [↓evA, eZ, Nat.reduceAdd, Nat.reduceMul, Nat.reduceBEq, Nat.reduceLeDiff, Nat.reduceLT]
 try simp only [Ja, eY]
 all_goals rfl
theorem QfU (k) {R1 a} [H1 : EncL Q9 R1 a] : CA T (n + 2) 40 [some (Ent.lst 2 R1)] [.sl 0, .i .i64 k] = (Qaq a k).map fun r => (.i .i64 r.2, [some (Ent.lst 2 (r.1.map Q9))]) := by
 obtain ⟨rfl⟩ := H1
 rw [Qfd]
 simp -dsimp +contextual only [↓evA, eZ, Nat.reduceAdd, Nat.reduceMul, Nat.reduceBEq, Nat.reduceLeDiff, Nat.reduceLT, Tryz.func40, Tryz.f40, a40, n40, QhX]
 try simp only [Qaq, eY]
 all_goals rfl
theorem QgJ (k i) {R1 a} [H1 : EncL QG R1 a] : LP T (n + 3) 73 2 (frm [(0, .sl 0), (1, .i .i64 k), (5, .i .i64 i)]) [some (Ent.lst 3 R1)] =
  (run Xv (a, k, i)).map (fun (zr : (List Secret) × Int) => (XE.exit 0, frm [(0, .sl 0), (1, .i .i64 zr.2)], [some (Ent.lst 3 (zr.1.map QG))])) := by
 obtain ⟨rfl⟩ := H1
 rw [Qm]
 simp -dsimp only [↓evA, evB, Qf, Tryz.func73, Tryz.f73, a73, n73, TP, TZ, Nat.reduceAdd, Nat.reduceMul, Nat.reduceBEq, Nat.reduceLeDiff, Nat.reduceLT]
 apply Za a k i
 intro a k i
 simp -dsimp +contextual only [↓evA, eZ, Nat.reduceAdd, Nat.reduceMul, Nat.reduceBEq, Nat.reduceLeDiff, Nat.reduceLT, srt, QfU]
 try simp only [Xv, eY]
 all_goals rfl
theorem QiM (k) {R1 a} [H1 : EncL QG R1 a] : CA T (n + 4) 73 [some (Ent.lst 3 R1)] [.sl 0, .i .i64 k] = (Qar a k).map fun r => (.i .i64 r.2, [some (Ent.lst 3 (r.1.map QG))]) := by
 obtain ⟨rfl⟩ := H1
 rw [Qfd]
 simp -dsimp +contextual only [↓evA, eZ, Nat.reduceAdd, Nat.reduceMul, Nat.reduceBEq, Nat.reduceLeDiff, Nat.reduceLT, Tryz.func73, Tryz.f73, a73, n73, srt, QgJ]
 try simp only [Qar, eY]
 all_goals rfl
theorem Qia (k i) {R1 a} [H1 : EncL QP R1 a] : LP T (n + 1) 19 2 (frm [(0, .sl 0), (1, .i .i64 k), (5, .i .i64 i)]) [some (Ent.lst 3 R1)] =
  (run Jd (a, k, i)).map (fun (zr : (List Slot) × Int) => (XE.exit 0, frm [(0, .sl 0), (1, .i .i64 zr.2)], [some (Ent.lst 3 (zr.1.map QP))])) := by
 obtain ⟨rfl⟩ := H1
 rw [Qm]
 simp -dsimp only [↓evA, evB, Qf, Tryz.func19, Tryz.f19, a19, n19, TP, TZ, Nat.reduceAdd, Nat.reduceMul, Nat.reduceBEq, Nat.reduceLeDiff, Nat.reduceLT]
 apply Za a k i
 intro a k i
 simp -dsimp +contextual only [↓evA, eZ, Nat.reduceAdd, Nat.reduceMul, Nat.reduceBEq, Nat.reduceLeDiff, Nat.reduceLT]
 try simp only [Jd, eY]
 all_goals rfl
theorem Qlg (k) {R1 a} [H1 : EncL QP R1 a] : CA T (n + 2) 19 [some (Ent.lst 3 R1)] [.sl 0, .i .i64 k] = (Qbs a k).map fun r => (.i .i64 r.2, [some (Ent.lst 3 (r.1.map QP))]) := by
 obtain ⟨rfl⟩ := H1
 rw [Qfd]
 simp -dsimp +contextual only [↓evA, eZ, Nat.reduceAdd, Nat.reduceMul, Nat.reduceBEq, Nat.reduceLeDiff, Nat.reduceLT, Tryz.func19, Tryz.f19, a19, n19, Qia]
 try simp only [Qbs, eY]
 all_goals rfl
theorem Qg4 (k i) {R1 a} [H1 : EncL Qg R1 a] : LP T (n + 1) 74 2 (frm [(0, .sl 0), (1, .i .i64 k), (5, .i .i64 i)]) [some (Ent.lst 5 R1)] =
  (run XQ (a, k, i)).map (fun (zr : (List Claim) × Int) => (XE.exit 0, frm [(0, .sl 0), (1, .i .i64 zr.2)], [some (Ent.lst 5 (zr.1.map Qg))])) := by
 obtain ⟨rfl⟩ := H1
 rw [Qm]
 simp -dsimp only [↓evA, evB, Qf, Tryz.func74, Tryz.f74, a74, n74, TP, TZ, Nat.reduceAdd, Nat.reduceMul, Nat.reduceBEq, Nat.reduceLeDiff, Nat.reduceLT]
 apply Za a k i
 intro a k i
 simp -dsimp +contextual only [↓evA, eZ, Nat.reduceAdd, Nat.reduceMul, Nat.reduceBEq, Nat.reduceLeDiff, Nat.reduceLT]
 try simp only [XQ, eY]
 all_goals rfl
theorem Qjz (k) {R1 a} [H1 : EncL Qg R1 a] : CA T (n + 2) 74 [some (Ent.lst 5 R1)] [.sl 0, .i .i64 k] = (QaO a k).map fun r => (.i .i64 r.2, [some (Ent.lst 5 (r.1.map Qg))]) := by
 obtain ⟨rfl⟩ := H1
 rw [Qfd]
 simp -dsimp +contextual only [↓evA, eZ, Nat.reduceAdd, Nat.reduceMul, Nat.reduceBEq, Nat.reduceLeDiff, Nat.reduceLT, Tryz.func74, Tryz.f74, a74, n74, Qg4]
 try simp only [QaO, eY]
 all_goals rfl
theorem Qhq (k i) {R1 a} [H1 : EncL QJ R1 a] : LP T (n + 1) 75 2 (frm [(0, .sl 0), (1, .i .i64 k), (5, .i .i64 i)]) [some (Ent.lst 4 R1)] =
  (run XJ (a, k, i)).map (fun (zr : (List Trial) × Int) => (XE.exit 0, frm [(0, .sl 0), (1, .i .i64 zr.2)], [some (Ent.lst 4 (zr.1.map QJ))])) := by
 obtain ⟨rfl⟩ := H1
 rw [Qm]
 simp -dsimp only [↓evA, evB, Qf, Tryz.func75, Tryz.f75, a75, n75, TP, TZ, Nat.reduceAdd, Nat.reduceMul, Nat.reduceBEq, Nat.reduceLeDiff, Nat.reduceLT]
 apply Za a k i
 intro a k i
 simp -dsimp +contextual only [↓evA, eZ, Nat.reduceAdd, Nat.reduceMul, Nat.reduceBEq, Nat.reduceLeDiff, Nat.reduceLT]
 try simp only [XJ, eY]
 all_goals rfl
theorem Qj6 (k) {R1 a} [H1 : EncL QJ R1 a] : CA T (n + 2) 75 [some (Ent.lst 4 R1)] [.sl 0, .i .i64 k] = (Qa2 a k).map fun r => (.i .i64 r.2, [some (Ent.lst 4 (r.1.map QJ))]) := by
 obtain ⟨rfl⟩ := H1
 rw [Qfd]
 simp -dsimp +contextual only [↓evA, eZ, Nat.reduceAdd, Nat.reduceMul, Nat.reduceBEq, Nat.reduceLeDiff, Nat.reduceLT, Tryz.func75, Tryz.f75, a75, n75, Qhq]
 try simp only [Qa2, eY]
 all_goals rfl
theorem Qid (k i) {R1 a} [H1 : EncL Va R1 a] : LP T (n + 1) 76 2 (frm [(0, .sl 0), (1, .i .i64 k), (5, .i .i64 i)]) [some (Ent.lst 5 R1)] =
  (run Jb (a, k, i)).map (fun (zr : (List Hand) × Int) => (XE.exit 0, frm [(0, .sl 0), (1, .i .i64 zr.2)], [some (Ent.lst 5 (zr.1.map Va))])) := by
 obtain ⟨rfl⟩ := H1
 rw [Qm]
 simp -dsimp only [↓evA, evB, Qf, Tryz.func76, Tryz.f76, a76, n76, TP, TZ, Nat.reduceAdd, Nat.reduceMul, Nat.reduceBEq, Nat.reduceLeDiff, Nat.reduceLT]
 apply Za a k i
 intro a k i
 simp -dsimp +contextual only [↓evA, eZ, Nat.reduceAdd, Nat.reduceMul, Nat.reduceBEq, Nat.reduceLeDiff, Nat.reduceLT]
 try simp only [Jb, eY]
 all_goals rfl
theorem Qle (k) {R1 a} [H1 : EncL Va R1 a] : CA T (n + 2) 76 [some (Ent.lst 5 R1)] [.sl 0, .i .i64 k] = (QbD a k).map fun r => (.i .i64 r.2, [some (Ent.lst 5 (r.1.map Va))]) := by
 obtain ⟨rfl⟩ := H1
 rw [Qfd]
 simp -dsimp +contextual only [↓evA, eZ, Nat.reduceAdd, Nat.reduceMul, Nat.reduceBEq, Nat.reduceLeDiff, Nat.reduceLT, Tryz.func76, Tryz.f76, a76, n76, Qid]
 try simp only [QbD, eY]
 all_goals rfl
theorem Qg3 (k i) {R1 a} [H1 : EncL QX R1 a] : LP T (n + 1) 77 2 (frm [(0, .sl 0), (1, .i .i64 k), (5, .i .i64 i)]) [some (Ent.lst 4 R1)] =
  (run XF (a, k, i)).map (fun (zr : (List Entry) × Int) => (XE.exit 0, frm [(0, .sl 0), (1, .i .i64 zr.2)], [some (Ent.lst 4 (zr.1.map QX))])) := by
 obtain ⟨rfl⟩ := H1
 rw [Qm]
 simp -dsimp only [↓evA, evB, Qf, Tryz.func77, Tryz.f77, a77, n77, TP, TZ, Nat.reduceAdd, Nat.reduceMul, Nat.reduceBEq, Nat.reduceLeDiff, Nat.reduceLT]
 apply Za a k i
 intro a k i
 simp -dsimp +contextual only [↓evA, eZ, Nat.reduceAdd, Nat.reduceMul, Nat.reduceBEq, Nat.reduceLeDiff, Nat.reduceLT]
 try simp only [XF, eY]
 all_goals rfl
theorem Qjc (k) {R1 a} [H1 : EncL QX R1 a] : CA T (n + 2) 77 [some (Ent.lst 4 R1)] [.sl 0, .i .i64 k] = (Qa7 a k).map fun r => (.i .i64 r.2, [some (Ent.lst 4 (r.1.map QX))]) := by
 obtain ⟨rfl⟩ := H1
 rw [Qfd]
 simp -dsimp +contextual only [↓evA, eZ, Nat.reduceAdd, Nat.reduceMul, Nat.reduceBEq, Nat.reduceLeDiff, Nat.reduceLT, Tryz.func77, Tryz.f77, a77, n77, Qg3]
 try simp only [Qa7, eY]
 all_goals rfl
theorem Qk3 (axNo axNow k) {R1 axFinds R2 axSecrets R3 axSlots R4 axClaims R5 axTrials R6 axChain R7 axBook} [H1 : EncL Qv R1 axFinds] [H2 : EncL QG R2 axSecrets] [H3 : EncL QP R3 axSlots] [H4 : EncL Qg R4 axClaims] [H5 : EncL QJ R5 axTrials] [H6 : EncL Va R6 axChain] [H7 : EncL QX R7 axBook] : CA T (n + 5) 20 [some (Ent.lst 8 R1), some (Ent.lst 3 R2), some (Ent.lst 3 R3), some (Ent.lst 5 R4), some (Ent.lst 4 R5), some (Ent.lst 5 R6), some (Ent.lst 4 R7)] [.agg [.i .i64 axNo, .sl 0, .sl 1, .sl 2, .sl 3, .sl 4, .sl 5, .sl 6, .i .i64 axNow], .i .i64 k] = (Xj (⟨axNo, axFinds, axSecrets, axSlots, axClaims, axTrials, axChain, axBook, axNow⟩ : House) k).map fun r => (.i .i64 r.2, [some (Ent.lst 8 (r.1.Finds.map Qv)), some (Ent.lst 3 (r.1.Secrets.map QG)), some (Ent.lst 3 (r.1.Slots.map QP)), some (Ent.lst 5 (r.1.Claims.map Qg)), some (Ent.lst 4 (r.1.Trials.map QJ)), some (Ent.lst 5 (r.1.Chain.map Va)), some (Ent.lst 4 (r.1.Book.map QX))]) := by
 rcases H1, H2, H3, H4, H5, H6, H7 with ⟨⟨rfl⟩, ⟨rfl⟩, ⟨rfl⟩, ⟨rfl⟩, ⟨rfl⟩, ⟨rfl⟩, ⟨rfl⟩⟩
 rw [Qfd]
 simp -dsimp +contextual (maxSteps := 100000000) only [↓evA, eZ, Nat.reduceAdd, Nat.reduceMul, Nat.reduceBEq, Nat.reduceLeDiff, Nat.reduceLT, Tryz.func20, Tryz.f20, a20, n20, srt, QlI, QiM, Qlg, Qjz, Qj6, Qle, Qjc]
 try simp only [Xj, eY]
 all_goals rfl
theorem QiN (k i) {R1 a} [H1 : EncL Vu R1 a] : LP T (n + 1) 46 2 (frm [(0, .sl 0), (1, .i .i64 k), (5, .i .i64 i)]) [some (Ent.lst 3 R1)] =
  (run JY (a, k, i)).map (fun (zr : (List Bid) × Int) => (XE.exit 0, frm [(0, .sl 0), (1, .i .i64 zr.2)], [some (Ent.lst 3 (zr.1.map Vu))])) := by
 obtain ⟨rfl⟩ := H1
 rw [Qm]
 simp -dsimp only [↓evA, evB, Qf, Tryz.func46, Tryz.f46, a46, n46, TP, TZ, Nat.reduceAdd, Nat.reduceMul, Nat.reduceBEq, Nat.reduceLeDiff, Nat.reduceLT]
 apply Za a k i
 intro a k i
 simp -dsimp +contextual only [↓evA, eZ, Nat.reduceAdd, Nat.reduceMul, Nat.reduceBEq, Nat.reduceLeDiff, Nat.reduceLT]
 try simp only [JY, eY]
 all_goals rfl
theorem Qmf (k) {R1 a} [H1 : EncL Vu R1 a] : CA T (n + 2) 46 [some (Ent.lst 3 R1)] [.sl 0, .i .i64 k] = (Qcw a k).map fun r => (.i .i64 r.2, [some (Ent.lst 3 (r.1.map Vu))]) := by
 obtain ⟨rfl⟩ := H1
 rw [Qfd]
 simp -dsimp +contextual only [↓evA, eZ, Nat.reduceAdd, Nat.reduceMul, Nat.reduceBEq, Nat.reduceLeDiff, Nat.reduceLT, Tryz.func46, Tryz.f46, a46, n46, QiN]
 try simp only [Qcw, eY]
 all_goals rfl
theorem Qlx (axKind axFindxThingxId axFindxThingxKind axFindxThingxColour axFindxThingxSize axFindxThingxWorth axFindxPlace axFindxAt axFindxFinder axId axWho axN k) {R1 axMarks R2 axBids} [H1 : EncL Q9 R1 axMarks] [H2 : EncL Vu R2 axBids] : CA T (n + 3) 52 [some (Ent.lst 2 R1), some (Ent.lst 3 R2)] [.agg [.i .i64 axKind, .i .i64 axFindxThingxId, .i .i64 axFindxThingxKind, .i .i64 axFindxThingxColour, .i .i64 axFindxThingxSize, .i .i64 axFindxThingxWorth, .i .i64 axFindxPlace, .i .i64 axFindxAt, .i .i64 axFindxFinder, .sl 0, .i .i64 axId, .i .i64 axWho, .i .i64 axN, .sl 1], .i .i64 k] = (Qbu (⟨axKind, ⟨⟨axFindxThingxId, axFindxThingxKind, axFindxThingxColour, axFindxThingxSize, axFindxThingxWorth⟩, axFindxPlace, axFindxAt, axFindxFinder⟩, axMarks, axId, axWho, axN, axBids⟩ : Event) k).map fun r => (.i .i64 r.2, [some (Ent.lst 2 (r.1.Marks.map Q9)), some (Ent.lst 3 (r.1.Bids.map Vu))]) := by
 rcases H1, H2 with ⟨⟨rfl⟩, ⟨rfl⟩⟩
 rw [Qfd]
 simp -dsimp +contextual only [↓evA, eZ, Nat.reduceAdd, Nat.reduceMul, Nat.reduceBEq, Nat.reduceLeDiff, Nat.reduceLT, Tryz.func52, Tryz.f52, a52, n52, srt, QfU, Qmf]
 try simp only [Qbu, eY]
 all_goals rfl
theorem Qil (a2 a3) {R1 a} [H1 : EncL Qv R1 a] : LP T (n + 1) 78 2 (frm [(0, .imm 8 R1), (1, .i .i64 a2), (5, .i .i64 a3)]) [] =
  VU (run (Jn a) (a2, a3)) (fun (zr : Int) => (XE.ret, frm [(4, .i .i64 zr)], [])) (fun (zr : Int) => (XE.exit 0, frm [(1, .i .i64 zr)], [])) := by
 obtain ⟨rfl⟩ := H1
 rw [Qm]
 simp -dsimp only [↓evA, evB, Qf, Tryz.func78, Tryz.f78, a78, n78, TP, TZ, Nat.reduceAdd, Nat.reduceMul, Nat.reduceBEq, Nat.reduceLeDiff, Nat.reduceLT]
 apply QH a2 a3
 intro a2 a3
 simp -dsimp +contextual only [↓evA, eZ, Nat.reduceAdd, Nat.reduceMul, Nat.reduceBEq, Nat.reduceLeDiff, Nat.reduceLT]
 try simp only [Jn, eY]
 all_goals rfl
theorem Qlw (a2) {R1 a} [H1 : EncL Qv R1 a] : CP T (n + 2) 78 [.imm 8 R1, .i .i64 a2] = (QbB a a2).map fun r => .i .i64 r := by
 obtain ⟨rfl⟩ := H1
 rw [Qc]
 simp -dsimp +contextual only [↓evA, eZ, Nat.reduceAdd, Nat.reduceMul, Nat.reduceBEq, Nat.reduceLeDiff, Nat.reduceLT, Tryz.func78, Tryz.f78, a78, n78, Qil]
 try simp only [QbB, eY]
 all_goals rfl
end Go.Proofs.YtcdffihcfeajfaaGreat
