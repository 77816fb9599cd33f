import Derived.Test.YtcdffihcfeajfaaGreatEq2
namespace Go.Proofs.YtcdffihcfeajfaaGreat
open Go Go.Proofs Go.Proofs.YtcdffihcfeajfaaGreat.Am
set_option maxHeartbeats 4000000
set_option linter.unusedVariables false
set_option linter.unusedSimpArgs false
set_option linter.defProp false
set_option maxRecDepth 100000
variable (n : Nat)
theorem Qhl (c a3 a4) {R1 a R2 a2} [H1 : EncL Vf R1 a] [H2 : EncL Vf R2 a2] : LP T (n + 2) 224 4 (frm [(0, .i .i64 c), (1, .imm 1 R1), (5, .sl 0), (6, .i .i64 a3), (7, .i .i64 a4)]) [some (Ent.lst 1 R2)] =
  VU (run (XP c a a2) (a3, a4)) (fun (zr : (List Int)) => (XE.ret, frm [(4, .sl 0)], [some (Ent.lst 1 (zr.map Vf))])) (fun (zr : Int) => (XE.exit 0, frm [(0, .i .i64 c), (1, .imm 1 (a.map Vf)), (5, .sl 0), (6, .i .i64 zr)], [some (Ent.lst 1 (a2.map Vf))])) := by
 rcases H1, H2 with ⟨⟨rfl⟩, ⟨rfl⟩⟩
 rw [Qm]
 simp -dsimp only [↓evA, evB, Qf, Tryz.func224, Tryz.f224, QCN, Qtx, TP, TZ, Nat.reduceAdd, Nat.reduceMul, Nat.reduceBEq, Nat.reduceLeDiff, Nat.reduceLT]
 apply QH a3 a4
 intro a3 a4
 simp -dsimp +contextual only [↓evA, eZ, Nat.reduceAdd, Nat.reduceMul, Nat.reduceBEq, Nat.reduceLeDiff, Nat.reduceLT, Vr]
 try simp only [XP, eY]
 all_goals rfl
theorem QgC (c a3 a4 a5) {R1 a R2 a2} [H1 : EncL Vf R1 a] [H2 : EncL Vf R2 a2] : LP T (n + 1) 224 13 (frm [(0, .i .i64 c), (1, .imm 1 R1), (5, .sl 0), (6, .i .i64 a3), (8, .i .i64 a4), (9, .i .i64 a5)]) [some (Ent.lst 1 R2)] =
  (run (VS c a a3) (a2, a4, a5)).map (fun (zr : (List Int) × Int) => (XE.exit 2, frm [(5, .sl 0), (8, .i .i64 zr.2)], [some (Ent.lst 1 (zr.1.map Vf))])) := by
 rcases H1, H2 with ⟨⟨rfl⟩, ⟨rfl⟩⟩
 rw [Qm]
 simp -dsimp only [↓evA, evB, Qf, Tryz.func224, Tryz.f224, QCN, Qtx, TP, TZ, Nat.reduceAdd, Nat.reduceMul, Nat.reduceBEq, Nat.reduceLeDiff, Nat.reduceLT]
 apply Za a2 a4 a5
 intro a2 a4 a5
 simp -dsimp +contextual only [↓evA, eZ, Nat.reduceAdd, Nat.reduceMul, Nat.reduceBEq, Nat.reduceLeDiff, Nat.reduceLT]
 try simp only [VS, eY]
 all_goals rfl
theorem QgH (a2 a3) {R1 a} [H1 : EncL Vf R1 a] : LP T (n + 1) 224 18 (frm [(5, .sl 0), (8, .i .i64 a2), (10, .i .i64 a3)]) [some (Ent.lst 1 R1)] =
  (run (Xw a2) (a, a3)).map (fun (zr : (List Int)) => (XE.exit 4, frm [(5, .sl 0)], [some (Ent.lst 1 (zr.map Vf))])) := by
 obtain ⟨rfl⟩ := H1
 rw [Qm]
 simp -dsimp only [↓evA, evB, Qf, Tryz.func224, Tryz.f224, QCN, Qtx, TP, TZ, Nat.reduceAdd, Nat.reduceMul, Nat.reduceBEq, Nat.reduceLeDiff, Nat.reduceLT]
 apply QH a a3
 intro a a3
 simp -dsimp +contextual only [↓evA, eZ, Nat.reduceAdd, Nat.reduceMul, Nat.reduceBEq, Nat.reduceLeDiff, Nat.reduceLT]
 try simp only [Xw, eY]
 all_goals rfl
theorem QjE (c) {R1 a} [H1 : EncL Vf R1 a] : CP T (n + 3) 224 [.i .i64 c, .imm 1 R1] = (QaT c a).map fun r => .own 1 (r.map Vf) := by
 obtain ⟨rfl⟩ := H1
 rw [Qc]
 simp -dsimp +contextual only [↓evA, eZ, Nat.reduceAdd, Nat.reduceMul, Nat.reduceBEq, Nat.reduceLeDiff, Nat.reduceLT, Tryz.func224, Tryz.f224, QCN, Qtx, Vr, Qhl, QgC, QgH]
 try simp only [QaT, eY]
 all_goals first | rfl | (simp +contextual only [evN] <;> rfl)
theorem Qm7 (p f) : CP T (n + 4) 141 [.i .i64 p, .i .i64 f] = (Qdi p f).map fun r => .own 2 (r.map Qiz) := by
 rw [Qc]
 simp -dsimp +contextual only [↓evA, eZ, Nat.reduceAdd, Nat.reduceMul, Nat.reduceBEq, Nat.reduceLeDiff, Nat.reduceLT, Tryz.func141, Tryz.f141, QT8, Qz5, Vr, QjE]
 try simp only [Qdi, eY]
 all_goals first | rfl | (simp +contextual only [evN] <;> rfl)
theorem Qmu (a2) {R1 a R2 a3} [H1 : EncR QD R1 a] [H2 : EncL Vu R2 a3] : CP T (n + 13) 42 [.agg R1, .i .i64 a2, .imm 3 R2] = (QcE a a2 a3).map fun r => .tup [.agg (VG r.1), .b r.2] := by
 rcases H1, H2 with ⟨⟨rfl⟩, ⟨rfl⟩⟩
 rw [Qc]
 simp -dsimp +contextual (maxSteps := 100000000) only [↓evA, eZ, Nat.reduceAdd, Nat.reduceMul, Nat.reduceBEq, Nat.reduceLeDiff, Nat.reduceLT, Tryz.func42, Tryz.f42, a42, n42, srt, JW, Qo2, Qbp, Qis, V2, Qfx, Qio, Qm7, Zb]
 try simp only [QcE, eY]
 try simp only [List.contains_nil, Bool.not_false, Bool.and_true, VC, List.length_append, List.length_cons, List.length_nil, Nat.zero_add, Vz, VK]
 all_goals rfl
theorem Qlj (a2) {R1 a} [H1 : EncR QD R1 a] : CP T (n + 13) 32 [.agg R1, .i .i64 a2] = (Qbo a a2).map fun r => .tup [.agg (VG r.1), .b r.2] := by
 obtain ⟨rfl⟩ := H1
 rw [Qc]
 simp -dsimp +contextual (maxSteps := 100000000) only [↓evA, eZ, Nat.reduceAdd, Nat.reduceMul, Nat.reduceBEq, Nat.reduceLeDiff, Nat.reduceLT, Tryz.func32, Tryz.f32, a32, n32, srt, JW, Qbp, V2, Qis, Qfx, Zb]
 try simp only [Qbo, eY]
 try simp only [List.contains_nil, Bool.not_false, Bool.and_true, VC, List.length_append, List.length_cons, List.length_nil, Nat.zero_add, Vz, VK]
 all_goals rfl
theorem Ql8 (a2) {R1 a} [H1 : EncR QD R1 a] : CP T (n + 13) 23 [.agg R1, .i .i64 a2] = (Qcq a a2).map fun r => .tup [.agg (VG r.1), .b r.2] := by
 obtain ⟨rfl⟩ := H1
 rw [Qc]
 simp -dsimp +contextual (maxSteps := 100000000) only [↓evA, eZ, Nat.reduceAdd, Nat.reduceMul, Nat.reduceBEq, Nat.reduceLeDiff, Nat.reduceLT, Tryz.func23, Tryz.f23, a23, n23, srt, V2, Vr, Zb]
 try simp only [Qcq, eY]
 all_goals rfl
theorem Qkt {R1 a R2 a2} [H1 : EncR QD R1 a] [H2 : EncR QdZ R2 a2] : CP T (n + 14) 48 [.agg R1, .agg R2] = (Qa9 a a2).map fun r => .tup [.agg (VG r.1), .b r.2] := by
 rcases H1, H2 with ⟨⟨rfl⟩, ⟨rfl⟩⟩
 rw [Qc]
 simp -dsimp +contextual (maxSteps := 100000000) only [↓evA, eZ, Nat.reduceAdd, Nat.reduceMul, Nat.reduceBEq, Nat.reduceLeDiff, Nat.reduceLT, Tryz.func48, Tryz.f48, a48, n48, Qmk, Qlh, Qjd, QlA, Qmu, Qlj, Ql8, V2]
 try simp only [Qa9, eY]
 all_goals rfl
theorem Qey {R1 s} [H1 : EncL Qv R1 s] : CP T (n + 1) 177 [.imm 8 R1] = (Xr s).map fun r => .own 8 (r.map Qv) := by
 obtain ⟨rfl⟩ := H1
 rw [Qc]
 simp -dsimp +contextual only [↓evA, eZ, Nat.reduceAdd, Nat.reduceMul, Nat.reduceBEq, Nat.reduceLeDiff, Nat.reduceLT, Tryz.func177, Tryz.f177, QUb, QDi]
 try simp only [Xr, eY]
 all_goals first | rfl | (simp +contextual only [evN] <;> rfl)
theorem Qch {R1 s} [H1 : EncL Q9 R1 s] : CP T (n + 1) 193 [.imm 2 R1] = (VV s).map fun r => .own 2 (r.map Q9) := by
 obtain ⟨rfl⟩ := H1
 rw [Qc]
 simp -dsimp +contextual only [↓evA, eZ, Nat.reduceAdd, Nat.reduceMul, Nat.reduceBEq, Nat.reduceLeDiff, Nat.reduceLT, Tryz.func193, Tryz.f193, QUx, QAN]
 try simp only [VV, eY]
 all_goals first | rfl | (simp +contextual only [evN] <;> rfl)
theorem Qf4 (a2 a3) {R1 o R2 a} [H1 : EncL QG R1 o] [H2 : EncL QC R2 a] : LP T (n + 2) 178 3 (frm [(3, .sl 0), (7, .imm 3 R2), (8, .i .i64 a2), (9, .i .i64 a3)]) [some (Ent.lst 3 R1)] =
  (run (VM a a2) (o, a3)).map (fun (zr : (List Secret)) => (XE.exit 0, frm [(3, .sl 0)], [some (Ent.lst 3 (zr.map QG))])) := by
 rcases H1, H2 with ⟨⟨rfl⟩, ⟨rfl⟩⟩
 rw [Qm]
 simp -dsimp only [↓evA, evB, Qf, Tryz.func178, Tryz.f178, QOA, Qzz, TP, TZ, Nat.reduceAdd, Nat.reduceMul, Nat.reduceBEq, Nat.reduceLeDiff, Nat.reduceLT]
 apply QH o a3
 intro o a3
 simp -dsimp +contextual only [↓evA, eZ, Nat.reduceAdd, Nat.reduceMul, Nat.reduceBEq, Nat.reduceLeDiff, Nat.reduceLT, Qch]
 try simp only [VM, eY]
 all_goals rfl
theorem Qex {R1 l} [H1 : EncL QC R1 l] : CP T (n + 3) 178 [.imm 3 R1] = (Xi l).map fun r => .own 3 (r.map QG) := by
 obtain ⟨rfl⟩ := H1
 rw [Qc]
 simp -dsimp +contextual only [↓evA, eZ, Nat.reduceAdd, Nat.reduceMul, Nat.reduceBEq, Nat.reduceLeDiff, Nat.reduceLT, Tryz.func178, Tryz.f178, QOA, Qzz, Qf4]
 try simp only [Xi, eY]
 all_goals first | rfl | (simp +contextual only [evN] <;> rfl)
theorem Qcj {R1 s} [H1 : EncL QP R1 s] : CP T (n + 1) 63 [.imm 3 R1] = (VW s).map fun r => .own 3 (r.map QP) := by
 obtain ⟨rfl⟩ := H1
 rw [Qc]
 simp -dsimp +contextual only [↓evA, eZ, Nat.reduceAdd, Nat.reduceMul, Nat.reduceBEq, Nat.reduceLeDiff, Nat.reduceLT, Tryz.func63, Tryz.f63, a63, n63]
 try simp only [VW, eY]
 all_goals first | rfl | (simp +contextual only [evN] <;> rfl)
theorem QbI {R1 s} [H1 : EncL Qg R1 s] : CP T (n + 1) 179 [.imm 5 R1] = (Vj s).map fun r => .own 5 (r.map Qg) := by
 obtain ⟨rfl⟩ := H1
 rw [Qc]
 simp -dsimp +contextual only [↓evA, eZ, Nat.reduceAdd, Nat.reduceMul, Nat.reduceBEq, Nat.reduceLeDiff, Nat.reduceLT, Tryz.func179, Tryz.f179, QSu, QDc]
 try simp only [Vj, eY]
 all_goals first | rfl | (simp +contextual only [evN] <;> rfl)
theorem Qhn {R1 s} [H1 : EncL QJ R1 s] : CP T (n + 1) 180 [.imm 4 R1] = (QaI s).map fun r => .own 4 (r.map QJ) := by
 obtain ⟨rfl⟩ := H1
 rw [Qc]
 simp -dsimp +contextual only [↓evA, eZ, Nat.reduceAdd, Nat.reduceMul, Nat.reduceBEq, Nat.reduceLeDiff, Nat.reduceLT, Tryz.func180, Tryz.f180, QPC, QCi]
 try simp only [QaI, eY]
 all_goals first | rfl | (simp +contextual only [evN] <;> rfl)
theorem QeA {R1 s} [H1 : EncL Va R1 s] : CP T (n + 1) 181 [.imm 5 R1] = (VI s).map fun r => .own 5 (r.map Va) := by
 obtain ⟨rfl⟩ := H1
 rw [Qc]
 simp -dsimp +contextual only [↓evA, eZ, Nat.reduceAdd, Nat.reduceMul, Nat.reduceBEq, Nat.reduceLeDiff, Nat.reduceLT, Tryz.func181, Tryz.f181, QQ8, QC3]
 try simp only [VI, eY]
 all_goals first | rfl | (simp +contextual only [evN] <;> rfl)
theorem Qef {R1 s} [H1 : EncL QX R1 s] : CP T (n + 1) 182 [.imm 4 R1] = (Xb s).map fun r => .own 4 (r.map QX) := by
 obtain ⟨rfl⟩ := H1
 rw [Qc]
 simp -dsimp +contextual only [↓evA, eZ, Nat.reduceAdd, Nat.reduceMul, Nat.reduceBEq, Nat.reduceLeDiff, Nat.reduceLT, Tryz.func182, Tryz.f182, a182, QDh]
 try simp only [Xb, eY]
 all_goals first | rfl | (simp +contextual only [evN] <;> rfl)
theorem Vh {R1 a} [H1 : EncR QD R1 a] : CP T (n + 4) 99 [.agg R1] = (QR a).map fun r => .agg (VG r) := by
 obtain ⟨rfl⟩ := H1
 rw [Qc]
 simp -dsimp +contextual (maxSteps := 100000000) only [↓evA, eZ, Nat.reduceAdd, Nat.reduceMul, Nat.reduceBEq, Nat.reduceLeDiff, Nat.reduceLT, Tryz.func99, Tryz.f99, a99, n99, Qey, Qex, Qcj, QbI, Qhn, QeA, Qef]
 try simp only [QR, eY]
 all_goals rfl
theorem QiJ (c) {R1 f} [H1 : EncR Qv R1 f] : CP T (n + 1) 248 [.agg R1, .iptr 1 [[.i .i64 c]] 0 0] = (QbR f c).map fun r => .b r := by
 obtain ⟨rfl⟩ := H1
 rw [Qc]
 simp -dsimp +contextual only [↓evA, eZ, Nat.reduceAdd, Nat.reduceMul, Nat.reduceBEq, Nat.reduceLeDiff, Nat.reduceLT, Tryz.func248, Tryz.f248, QSg, QBR]
 try simp only [QbR, eY]
 all_goals rfl
theorem Z1 (f a a2) {R1 s} [H1 : EncL Qv R1 s] : LP T (n + 2) 247 2 (frm [(0, .imm 8 R1), (1, .clo 248 [.iptr 1 [[.i .i64 f]] 0 0]), (7, .i .i64 a), (8, .i .i64 a2)]) [] =
  VU (run (Qy s f a) a2) (fun (zr : Int) => (XE.ret, frm [(4, .i .i64 zr)], [])) (fun (zr : Unit) => (XE.exit 0, frm [], [])) := by
 obtain ⟨rfl⟩ := H1
 rw [Qm]
 simp -dsimp only [↓evA, evB, Qf, Tryz.func247, Tryz.f247, QL4, Qx5, TP, TZ, Nat.reduceAdd, Nat.reduceMul, Nat.reduceBEq, Nat.reduceLeDiff, Nat.reduceLT]
 apply Ql a2
 intro a2
 simp -dsimp +contextual only [↓evA, eZ, Nat.reduceAdd, Nat.reduceMul, Nat.reduceBEq, Nat.reduceLeDiff, Nat.reduceLT, QiJ]
 try simp only [Qy, eY]
 all_goals rfl
theorem QaW (c) {R1 s} [H1 : EncL Qv R1 s] : CP T (n + 3) 247 [.imm 8 R1, .clo 248 [.iptr 1 [[.i .i64 c]] 0 0]] = (Vn s c).map fun r => .i .i64 r := by
 obtain ⟨rfl⟩ := H1
 rw [Qc]
 simp -dsimp +contextual only [↓evA, eZ, Nat.reduceAdd, Nat.reduceMul, Nat.reduceBEq, Nat.reduceLeDiff, Nat.reduceLT, Tryz.func247, Tryz.f247, QL4, Qx5, Z1]
 try simp only [Vn, eY]
 all_goals rfl
theorem Qaa (i) {R1 l} [H1 : EncL Qv R1 l] : CP T (n + 4) 210 [.imm 8 R1, .i .i64 i] = (Xm l i).map fun r => .i .i64 r := by
 obtain ⟨rfl⟩ := H1
 rw [Qc]
 simp -dsimp +contextual only [↓evA, eZ, Nat.reduceAdd, Nat.reduceMul, Nat.reduceBEq, Nat.reduceLeDiff, Nat.reduceLT, Tryz.func210, Tryz.f210, QSN, QDM, QaW]
 try simp only [Xm, eY]
 all_goals rfl
theorem QV (a l a2) : CP T (n + 1) 101 [.i .i64 a, .i .i64 l, .i .i64 a2] = (Qb a l a2).map fun r => .b r := by
 rw [Qc]
 simp -dsimp +contextual only [↓evA, eZ, Nat.reduceAdd, Nat.reduceMul, Nat.reduceBEq, Nat.reduceLeDiff, Nat.reduceLT, Tryz.func101, Tryz.f101, QQQ, QCW]
 try simp only [Qb, eY]
 all_goals rfl
theorem QeU {R1 a} [H1 : EncR ZR R1 a] : CP T (n + 2) 212 [.agg R1] = (ZJ a).map fun r => .b r := by
 obtain ⟨rfl⟩ := H1
 rw [Qc]
 simp -dsimp +contextual only [↓evA, eZ, Nat.reduceAdd, Nat.reduceMul, Nat.reduceBEq, Nat.reduceLeDiff, Nat.reduceLT, Tryz.func212, Tryz.f212, QTz, QAb, QV]
 try simp only [ZJ, eY]
 all_goals rfl
theorem Qfz {R1 f} [H1 : EncR Qv R1 f] : CP T (n + 3) 233 [.agg R1] = (Qav f).map fun r => .b r := by
 obtain ⟨rfl⟩ := H1
 rw [Qc]
 simp -dsimp +contextual only [↓evA, eZ, Nat.reduceAdd, Nat.reduceMul, Nat.reduceBEq, Nat.reduceLeDiff, Nat.reduceLT, Tryz.func233, Tryz.f233, QSM, QAo, QeU, QV]
 try simp only [Qav, eY]
 all_goals rfl
theorem QiE (a2 a3) {R1 l R2 a} [H1 : EncL Qv R1 l] [H2 : EncL Qv R2 a] : LP T (n + 4) 156 4 (frm [(0, .imm 8 R1), (8, .imm 8 R2), (9, .i .i64 a2), (10, .i .i64 a3)]) [] =
  VU (run (JP l a a2) a3) (fun (zr : Bool) => (XE.ret, frm [(2, .b zr)], [])) (fun (zr : Unit) => (XE.exit 0, frm [], [])) := by
 rcases H1, H2 with ⟨⟨rfl⟩, ⟨rfl⟩⟩
 rw [Qm]
 simp -dsimp only [↓evA, evB, Qf, Tryz.func156, Tryz.f156, QJh, QyO, TP, TZ, Nat.reduceAdd, Nat.reduceMul, Nat.reduceBEq, Nat.reduceLeDiff, Nat.reduceLT]
 apply Ql a3
 intro a3
 simp -dsimp +contextual only [↓evA, eZ, Nat.reduceAdd, Nat.reduceMul, Nat.reduceBEq, Nat.reduceLeDiff, Nat.reduceLT, Qfz]
 try simp only [JP, eY]
 all_goals rfl
theorem Qgs {R1 l} [H1 : EncL Qv R1 l] : CP T (n + 5) 156 [.imm 8 R1] = (ZQ l).map fun r => .b r := by
 obtain ⟨rfl⟩ := H1
 rw [Qc]
 simp -dsimp +contextual only [↓evA, eZ, Nat.reduceAdd, Nat.reduceMul, Nat.reduceBEq, Nat.reduceLeDiff, Nat.reduceLT, Tryz.func156, Tryz.f156, QJh, QyO, QiE]
 try simp only [ZQ, eY]
 all_goals rfl
theorem QkA (a) {R1 l R2 f R3 o} [H1 : EncL Qv R1 l] [H2 : EncR Qv R2 f] [H3 : EncL Qv R3 o] : LP T (n + 1) 135 5 (frm [(0, .imm 8 R1), (3, .ptr 0 0 0), (6, .sl 1), (7, .i .i64 a)]) [some (Ent.box R2), some (Ent.lst 8 R3)] =
  (run (QcM l f o) a).map (fun (zr : Int) => (XE.exit 0, frm [(0, .imm 8 (l.map Qv)), (3, .ptr 0 0 0), (6, .sl 1), (7, .i .i64 zr)], [some (Ent.box (Qv f)), some (Ent.lst 8 (o.map Qv))])) := by
 rcases H1, H2, H3 with ⟨⟨rfl⟩, ⟨rfl⟩, ⟨rfl⟩⟩
 rw [Qm]
 simp -dsimp only [↓evA, evB, Qf, Tryz.func135, Tryz.f135, QMY, Qw7, TP, TZ, Nat.reduceAdd, Nat.reduceMul, Nat.reduceBEq, Nat.reduceLeDiff, Nat.reduceLT]
 apply Ql a
 intro a
 simp -dsimp +contextual only [↓evA, eZ, Nat.reduceAdd, Nat.reduceMul, Nat.reduceBEq, Nat.reduceLeDiff, Nat.reduceLT, srt]
 try simp only [QcM, eY]
 all_goals rfl
theorem QnU {R1 l R2 f} [H1 : EncL Qv R1 l] [H2 : EncR Qv R2 f] : CP T (n + 6) 135 [.imm 8 R1, .agg R2] = (QdJ l f).map fun r => .tup [.own 8 (r.1.map Qv), .b r.2] := by
 rcases H1, H2 with ⟨⟨rfl⟩, ⟨rfl⟩⟩
 rw [Qc]
 simp -dsimp +contextual only [↓evA, eZ, Nat.reduceAdd, Nat.reduceMul, Nat.reduceBEq, Nat.reduceLeDiff, Nat.reduceLT, Tryz.func135, Tryz.f135, QMY, Qw7, srt, Qey, Qaa, QDH, Qgs, QkA]
 try simp only [QdJ, eY]
 all_goals first | rfl | (simp +contextual only [evN] <;> rfl)
theorem Qki (c) {R1 a} [H1 : EncR QC R1 a] : CP T (n + 1) 242 [.agg R1, .iptr 1 [[.i .i64 c]] 0 0] = (Qa3 a c).map fun r => .b r := by
 obtain ⟨rfl⟩ := H1
 rw [Qc]
 simp -dsimp +contextual only [↓evA, eZ, Nat.reduceAdd, Nat.reduceMul, Nat.reduceBEq, Nat.reduceLeDiff, Nat.reduceLT, Tryz.func242, Tryz.f242, QUp, QDm]
 try simp only [Qa3, eY]
 all_goals rfl
theorem ZW (f a a2) {R1 s} [H1 : EncL QC R1 s] : LP T (n + 2) 241 2 (frm [(0, .imm 3 R1), (1, .clo 242 [.iptr 1 [[.i .i64 f]] 0 0]), (7, .i .i64 a), (8, .i .i64 a2)]) [] =
  VU (run (Qi s f a) a2) (fun (zr : Int) => (XE.ret, frm [(4, .i .i64 zr)], [])) (fun (zr : Unit) => (XE.exit 0, frm [], [])) := by
 obtain ⟨rfl⟩ := H1
 rw [Qm]
 simp -dsimp only [↓evA, evB, Qf, Tryz.func241, Tryz.f241, QPc, QwT, TP, TZ, Nat.reduceAdd, Nat.reduceMul, Nat.reduceBEq, Nat.reduceLeDiff, Nat.reduceLT]
 apply Ql a2
 intro a2
 simp -dsimp +contextual only [↓evA, eZ, Nat.reduceAdd, Nat.reduceMul, Nat.reduceBEq, Nat.reduceLeDiff, Nat.reduceLT, Qki]
 try simp only [Qi, eY]
 all_goals rfl
theorem QaA (c) {R1 s} [H1 : EncL QC R1 s] : CP T (n + 3) 241 [.imm 3 R1, .clo 242 [.iptr 1 [[.i .i64 c]] 0 0]] = (QW s c).map fun r => .i .i64 r := by
 obtain ⟨rfl⟩ := H1
 rw [Qc]
 simp -dsimp +contextual only [↓evA, eZ, Nat.reduceAdd, Nat.reduceMul, Nat.reduceBEq, Nat.reduceLeDiff, Nat.reduceLT, Tryz.func241, Tryz.f241, QPc, QwT, ZW]
 try simp only [QW, eY]
 all_goals rfl
theorem Qgq (a) {R1 l} [H1 : EncL QC R1 l] : CP T (n + 4) 192 [.imm 3 R1, .i .i64 a] = (JH l a).map fun r => .i .i64 r := by
 obtain ⟨rfl⟩ := H1
 rw [Qc]
 simp -dsimp +contextual only [↓evA, eZ, Nat.reduceAdd, Nat.reduceMul, Nat.reduceBEq, Nat.reduceLeDiff, Nat.reduceLT, Tryz.func192, Tryz.f192, QS8, QDb, QaA]
 try simp only [JH, eY]
 all_goals rfl
theorem QiQ (a2 a3) {R1 l R2 a} [H1 : EncL Q9 R1 l] [H2 : EncL Q9 R2 a] : LP T (n + 2) 197 4 (frm [(0, .imm 2 R1), (8, .imm 2 R2), (9, .i .i64 a2), (10, .i .i64 a3)]) [] =
  VU (run (JZ l a a2) a3) (fun (zr : Bool) => (XE.ret, frm [(2, .b zr)], [])) (fun (zr : Unit) => (XE.exit 0, frm [], [])) := by
 rcases H1, H2 with ⟨⟨rfl⟩, ⟨rfl⟩⟩
 rw [Qm]
 simp -dsimp only [↓evA, evB, Qf, Tryz.func197, Tryz.f197, QOh, Qzp, TP, TZ, Nat.reduceAdd, Nat.reduceMul, Nat.reduceBEq, Nat.reduceLeDiff, Nat.reduceLT]
 apply Ql a3
 intro a3
 simp -dsimp +contextual only [↓evA, eZ, Nat.reduceAdd, Nat.reduceMul, Nat.reduceBEq, Nat.reduceLeDiff, Nat.reduceLT, QV]
 try simp only [JZ, eY]
 all_goals rfl
theorem Qeu {R1 l} [H1 : EncL Q9 R1 l] : CP T (n + 3) 197 [.imm 2 R1] = (ZS l).map fun r => .b r := by
 obtain ⟨rfl⟩ := H1
 rw [Qc]
 simp -dsimp +contextual only [↓evA, eZ, Nat.reduceAdd, Nat.reduceMul, Nat.reduceBEq, Nat.reduceLeDiff, Nat.reduceLT, Tryz.func197, Tryz.f197, QOh, Qzp, QiQ]
 try simp only [ZS, eY]
 all_goals rfl
theorem QgX (a2 a3) {R1 l R2 a} [H1 : EncL QC R1 l] [H2 : EncL QC R2 a] : LP T (n + 4) 157 4 (frm [(0, .imm 3 R1), (8, .imm 3 R2), (9, .i .i64 a2), (10, .i .i64 a3)]) [] =
  VU (run (XK l a a2) a3) (fun (zr : Bool) => (XE.ret, frm [(2, .b zr)], [])) (fun (zr : Unit) => (XE.exit 0, frm [], [])) := by
 rcases H1, H2 with ⟨⟨rfl⟩, ⟨rfl⟩⟩
 rw [Qm]
 simp -dsimp only [↓evA, evB, Qf, Tryz.func157, Tryz.f157, QIT, Qwq, TP, TZ, Nat.reduceAdd, Nat.reduceMul, Nat.reduceBEq, Nat.reduceLeDiff, Nat.reduceLT]
 apply Ql a3
 intro a3
 simp -dsimp +contextual only [↓evA, eZ, Nat.reduceAdd, Nat.reduceMul, Nat.reduceBEq, Nat.reduceLeDiff, Nat.reduceLT, QV, Qeu]
 try simp only [XK, eY]
 all_goals rfl
theorem Qff {R1 l} [H1 : EncL QC R1 l] : CP T (n + 5) 157 [.imm 3 R1] = (JA l).map fun r => .b r := by
 obtain ⟨rfl⟩ := H1
 rw [Qc]
 simp -dsimp +contextual only [↓evA, eZ, Nat.reduceAdd, Nat.reduceMul, Nat.reduceBEq, Nat.reduceLeDiff, Nat.reduceLT, Tryz.func157, Tryz.f157, QIT, Qwq, QgX]
 try simp only [JA, eY]
 all_goals rfl
theorem Qh6 (a2) {R1 l R2 a R3 o} [H1 : EncL QC R1 l] [H2 : EncR QC R2 a] [H3 : EncL QG R3 o] : LP T (n + 1) 136 5 (frm [(0, .imm 3 R1), (3, .ptr 0 0 0), (6, .sl 1), (7, .i .i64 a2)]) [some (Ent.box R2), some (Ent.lst 3 R3)] =
  (run (Qbk l a o) a2).map (fun (zr : Int) => (XE.exit 0, frm [(0, .imm 3 (l.map QC)), (3, .ptr 0 0 0), (6, .sl 1), (7, .i .i64 zr)], [some (Ent.box (QC a)), some (Ent.lst 3 (o.map QG))])) := by
 rcases H1, H2, H3 with ⟨⟨rfl⟩, ⟨rfl⟩, ⟨rfl⟩⟩
 rw [Qm]
 simp -dsimp only [↓evA, evB, Qf, Tryz.func136, Tryz.f136, QML, QwL, TP, TZ, Nat.reduceAdd, Nat.reduceMul, Nat.reduceBEq, Nat.reduceLeDiff, Nat.reduceLT]
 apply Ql a2
 intro a2
 simp -dsimp +contextual only [↓evA, eZ, Nat.reduceAdd, Nat.reduceMul, Nat.reduceBEq, Nat.reduceLeDiff, Nat.reduceLT, srt]
 try simp only [Qbk, eY]
 all_goals rfl
theorem Qlb {R1 l R2 a} [H1 : EncL QC R1 l] [H2 : EncR QC R2 a] : CP T (n + 6) 136 [.imm 3 R1, .agg R2] = (QbN l a).map fun r => .tup [.own 3 (r.1.map QG), .b r.2] := by
 rcases H1, H2 with ⟨⟨rfl⟩, ⟨rfl⟩⟩
 rw [Qc]
 simp -dsimp +contextual only [↓evA, eZ, Nat.reduceAdd, Nat.reduceMul, Nat.reduceBEq, Nat.reduceLeDiff, Nat.reduceLT, Tryz.func136, Tryz.f136, QML, QwL, srt, Qex, Qgq, Qch, QCA, Qff, Qh6]
 try simp only [QbN, eY]
 all_goals first | rfl | (simp +contextual only [evN] <;> rfl)
theorem Qjx (s b a2 a3) {R1 l R2 a} [H1 : EncL QP R1 l] [H2 : EncL QP R2 a] : LP T (n + 1) 220 3 (frm [(0, .imm 3 R1), (1, .i .i64 s), (5, .i .i64 b), (8, .imm 3 R2), (9, .i .i64 a2), (10, .i .i64 a3)]) [] =
  (run (QaL l s a a2) (b, a3)).map (fun (zr : Int) => (XE.exit 0, frm [(5, .i .i64 zr)], [])) := by
 rcases H1, H2 with ⟨⟨rfl⟩, ⟨rfl⟩⟩
 rw [Qm]
 simp -dsimp only [↓evA, evB, Qf, Tryz.func220, Tryz.f220, QNc, QzF, TP, TZ, Nat.reduceAdd, Nat.reduceMul, Nat.reduceBEq, Nat.reduceLeDiff, Nat.reduceLT]
 apply QH b a3
 intro b a3
 simp -dsimp +contextual only [↓evA, eZ, Nat.reduceAdd, Nat.reduceMul, Nat.reduceBEq, Nat.reduceLeDiff, Nat.reduceLT]
 try simp only [QaL, eY]
 all_goals rfl
theorem QnJ (s) {R1 l} [H1 : EncL QP R1 l] : CP T (n + 2) 220 [.imm 3 R1, .i .i64 s] = (Qdk l s).map fun r => .i .i64 r := by
 obtain ⟨rfl⟩ := H1
 rw [Qc]
 simp -dsimp +contextual only [↓evA, eZ, Nat.reduceAdd, Nat.reduceMul, Nat.reduceBEq, Nat.reduceLeDiff, Nat.reduceLT, Tryz.func220, Tryz.f220, QNc, QzF, Qjx]
 try simp only [Qdk, eY]
 all_goals rfl
theorem QkE (c) {R1 a} [H1 : EncR QP R1 a] : CP T (n + 1) 203 [.agg R1, .iptr 1 [[.i .i64 c]] 0 0] = (QcP a c).map fun r => .b r := by
 obtain ⟨rfl⟩ := H1
 rw [Qc]
 simp -dsimp +contextual only [↓evA, eZ, Nat.reduceAdd, Nat.reduceMul, Nat.reduceBEq, Nat.reduceLeDiff, Nat.reduceLT, Tryz.func203, Tryz.f203, QP5, QB4]
 try simp only [QcP, eY]
 all_goals rfl
theorem Qat (f a a2) {R1 s} [H1 : EncL QP R1 s] : LP T (n + 2) 202 2 (frm [(0, .imm 3 R1), (1, .clo 203 [.iptr 1 [[.i .i64 f]] 0 0]), (7, .i .i64 a), (8, .i .i64 a2)]) [] =
  VU (run (Qz s f a) a2) (fun (zr : Int) => (XE.ret, frm [(4, .i .i64 zr)], [])) (fun (zr : Unit) => (XE.exit 0, frm [], [])) := by
 obtain ⟨rfl⟩ := H1
 rw [Qm]
 simp -dsimp only [↓evA, evB, Qf, Tryz.func202, Tryz.f202, QJ9, QxU, TP, TZ, Nat.reduceAdd, Nat.reduceMul, Nat.reduceBEq, Nat.reduceLeDiff, Nat.reduceLT]
 apply Ql a2
 intro a2
 simp -dsimp +contextual only [↓evA, eZ, Nat.reduceAdd, Nat.reduceMul, Nat.reduceBEq, Nat.reduceLeDiff, Nat.reduceLT, QkE]
 try simp only [Qz, eY]
 all_goals rfl
theorem Qbh (c) {R1 s} [H1 : EncL QP R1 s] : CP T (n + 3) 202 [.imm 3 R1, .clo 203 [.iptr 1 [[.i .i64 c]] 0 0]] = (Vq s c).map fun r => .i .i64 r := by
 obtain ⟨rfl⟩ := H1
 rw [Qc]
 simp -dsimp +contextual only [↓evA, eZ, Nat.reduceAdd, Nat.reduceMul, Nat.reduceBEq, Nat.reduceLeDiff, Nat.reduceLT, Tryz.func202, Tryz.f202, QJ9, QxU, Qat]
 try simp only [Vq, eY]
 all_goals rfl
theorem Zt (a) {R1 l} [H1 : EncL QP R1 l] : CP T (n + 4) 114 [.imm 3 R1, .i .i64 a] = (VZ l a).map fun r => .i .i64 r := by
 obtain ⟨rfl⟩ := H1
 rw [Qc]
 simp -dsimp +contextual only [↓evA, eZ, Nat.reduceAdd, Nat.reduceMul, Nat.reduceBEq, Nat.reduceLeDiff, Nat.reduceLT, Tryz.func114, Tryz.f114, QUj, QC8, Qbh]
 try simp only [VZ, eY]
 all_goals rfl
theorem Qo0 (a) {R1 l} [H1 : EncL QP R1 l] : CP T (n + 5) 234 [.imm 3 R1, .i .i64 a] = (Qc5 l a).map fun r => .i .i64 r := by
 obtain ⟨rfl⟩ := H1
 rw [Qc]
 simp -dsimp +contextual only [↓evA, eZ, Nat.reduceAdd, Nat.reduceMul, Nat.reduceBEq, Nat.reduceLeDiff, Nat.reduceLT, Tryz.func234, Tryz.f234, QRv, QCj, Zt]
 try simp only [Qc5, eY]
 all_goals rfl
theorem Qi7 (a2 a3) {R1 l R2 a} [H1 : EncL QP R1 l] [H2 : EncL QP R2 a] : LP T (n + 6) 158 4 (frm [(0, .imm 3 R1), (8, .imm 3 R2), (9, .i .i64 a2), (10, .i .i64 a3)]) [] =
  VU (run (J8 l a a2) a3) (fun (zr : Bool) => (XE.ret, frm [(2, .b zr)], [])) (fun (zr : Unit) => (XE.exit 0, frm [], [])) := by
 rcases H1, H2 with ⟨⟨rfl⟩, ⟨rfl⟩⟩
 rw [Qm]
 simp -dsimp only [↓evA, evB, Qf, Tryz.func158, Tryz.f158, QHT, Qwv, TP, TZ, Nat.reduceAdd, Nat.reduceMul, Nat.reduceBEq, Nat.reduceLeDiff, Nat.reduceLT]
 apply Ql a3
 intro a3
 simp -dsimp +contextual only [↓evA, eZ, Nat.reduceAdd, Nat.reduceMul, Nat.reduceBEq, Nat.reduceLeDiff, Nat.reduceLT, QV, Qo0]
 try simp only [J8, eY]
 all_goals rfl
theorem Qet {R1 l} [H1 : EncL QP R1 l] : CP T (n + 7) 158 [.imm 3 R1] = (JL l).map fun r => .b r := by
 obtain ⟨rfl⟩ := H1
 rw [Qc]
 simp -dsimp +contextual only [↓evA, eZ, Nat.reduceAdd, Nat.reduceMul, Nat.reduceBEq, Nat.reduceLeDiff, Nat.reduceLT, Tryz.func158, Tryz.f158, QHT, Qwv, Qi7]
 try simp only [JL, eY]
 all_goals rfl
theorem Qoz {R1 l R2 a} [H1 : EncL QP R1 l] [H2 : EncR ZR R2 a] : CP T (n + 8) 137 [.imm 3 R1, .agg R2] = (QdF l a).map fun r => .tup [.own 3 (r.1.map QP), .b r.2] := by
 rcases H1, H2 with ⟨⟨rfl⟩, ⟨rfl⟩⟩
 rw [Qc]
 simp -dsimp +contextual only [↓evA, eZ, Nat.reduceAdd, Nat.reduceMul, Nat.reduceBEq, Nat.reduceLeDiff, Nat.reduceLT, Tryz.func137, Tryz.f137, QUW, Qz7, Qcj, QnJ, Qet, QeU, Zt]
 try simp only [QdF, eY]
 all_goals first | rfl | (simp +contextual only [evN] <;> rfl)
theorem Qty (p q) : CP T (n + 2) 283 [.i .i64 p, .i .i64 q] = (Qds p q).map fun r => .i .i64 r := by
 rw [Qc]
 simp -dsimp +contextual only [↓evA, eZ, Nat.reduceAdd, Nat.reduceMul, Nat.reduceBEq, Nat.reduceLeDiff, Nat.reduceLT, Tryz.func283, Tryz.f283, QQT, QC4, QV]
 try simp only [Qds, eY]
 all_goals rfl
theorem Qr0 (a v) : CP T (n + 3) 274 [.i .i64 a, .i .i64 v] = (QhD a v).map fun r => .i .i64 r := by
 rw [Qc]
 simp -dsimp +contextual only [↓evA, eZ, Nat.reduceAdd, Nat.reduceMul, Nat.reduceBEq, Nat.reduceLeDiff, Nat.reduceLT, Tryz.func274, Tryz.f274, QQX, QAT, Qty]
 try simp only [QhD, eY]
 all_goals rfl
theorem Qm3 (a a3 a4) {R1 a2} [H1 : EncL Vf R1 a2] : LP T (n + 4) 256 3 (frm [(3, .i .i64 a), (6, .imm 1 R1), (7, .i .i64 a3), (8, .i .i64 a4)]) [] =
  (run (Qdg a2 a3) (a, a4)).map (fun (zr : Int) => (XE.exit 0, frm [(3, .i .i64 zr)], [])) := by
 obtain ⟨rfl⟩ := H1
 rw [Qm]
 simp -dsimp only [↓evA, evB, Qf, Tryz.func256, Tryz.f256, QOv, Qwt, TP, TZ, Nat.reduceAdd, Nat.reduceMul, Nat.reduceBEq, Nat.reduceLeDiff, Nat.reduceLT]
 apply QH a a4
 intro a a4
 simp -dsimp +contextual only [↓evA, eZ, Nat.reduceAdd, Nat.reduceMul, Nat.reduceBEq, Nat.reduceLeDiff, Nat.reduceLT, Qr0]
 try simp only [Qdg, eY]
 all_goals rfl
theorem QlZ {R1 v} [H1 : EncL Vf R1 v] : CP T (n + 5) 256 [.imm 1 R1] = (QdV v).map fun r => .i .i64 r := by
 obtain ⟨rfl⟩ := H1
 rw [Qc]
 simp -dsimp +contextual only [↓evA, eZ, Nat.reduceAdd, Nat.reduceMul, Nat.reduceBEq, Nat.reduceLeDiff, Nat.reduceLT, Tryz.func256, Tryz.f256, QOv, Qwt, Qm3]
 try simp only [QdV, eY]
 all_goals rfl
theorem Qgy (b) {R1 a} [H1 : EncR Va R1 a] : CP T (n + 6) 221 [.i .i64 b, .agg R1] = (XS b a).map fun r => .i .i64 r := by
 obtain ⟨rfl⟩ := H1
 rw [Qc]
 simp -dsimp +contextual only [↓evA, eZ, Nat.reduceAdd, Nat.reduceMul, Nat.reduceBEq, Nat.reduceLeDiff, Nat.reduceLT, Tryz.func221, Tryz.f221, QQG, QBi, QlZ]
 try simp only [XS, eY]
 all_goals rfl
theorem QiV (a i) {R1 l} [H1 : EncL Va R1 l] : LP T (n + 1) 235 2 (frm [(0, .imm 5 R1), (1, .i .i64 a), (5, .i .i64 i)]) [] =
  VU (run (Z9 l a) i) (fun (zr : Int) => (XE.ret, frm [(4, .i .i64 zr)], [])) (fun (zr : Unit) => (XE.exit 0, frm [], [])) := by
 obtain ⟨rfl⟩ := H1
 rw [Qm]
 simp -dsimp only [↓evA, evB, Qf, Tryz.func235, Tryz.f235, QJ4, Qx8, TP, TZ, Nat.reduceAdd, Nat.reduceMul, Nat.reduceBEq, Nat.reduceLeDiff, Nat.reduceLT]
 apply Ql i
 intro i
 simp -dsimp +contextual only [↓evA, eZ, Nat.reduceAdd, Nat.reduceMul, Nat.reduceBEq, Nat.reduceLeDiff, Nat.reduceLT]
 try simp only [Z9, eY]
 all_goals rfl
theorem Qgt (a) {R1 l} [H1 : EncL Va R1 l] : CP T (n + 2) 235 [.imm 5 R1, .i .i64 a] = (ZP l a).map fun r => .i .i64 r := by
 obtain ⟨rfl⟩ := H1
 rw [Qc]
 simp -dsimp +contextual only [↓evA, eZ, Nat.reduceAdd, Nat.reduceMul, Nat.reduceBEq, Nat.reduceLeDiff, Nat.reduceLT, Tryz.func235, Tryz.f235, QJ4, Qx8, QiV]
 try simp only [ZP, eY]
 all_goals rfl
theorem Qj0 (a a3 a4) {R1 l R2 a2} [H1 : EncL Va R1 l] [H2 : EncL Va R2 a2] : LP T (n + 7) 160 5 (frm [(0, .imm 5 R1), (3, .i .i64 a), (10, .imm 5 R2), (11, .i .i64 a3), (12, .i .i64 a4)]) [] =
  VU (run (Jx l a2 a3) (a, a4)) (fun (zr : Bool) => (XE.ret, frm [(2, .b zr)], [])) (fun (zr : Unit) => (XE.exit 0, frm [], [])) := by
 rcases H1, H2 with ⟨⟨rfl⟩, ⟨rfl⟩⟩
 rw [Qm]
 simp -dsimp only [↓evA, evB, Qf, Tryz.func160, Tryz.f160, QN3, QzD, TP, TZ, Nat.reduceAdd, Nat.reduceMul, Nat.reduceBEq, Nat.reduceLeDiff, Nat.reduceLT]
 apply QH a a4
 intro a a4
 simp -dsimp +contextual only [↓evA, eZ, Nat.reduceAdd, Nat.reduceMul, Nat.reduceBEq, Nat.reduceLeDiff, Nat.reduceLT, QV, Qgy, Qgt]
 try simp only [Jx, eY]
 all_goals rfl
theorem QeN {R1 l} [H1 : EncL Va R1 l] : CP T (n + 8) 160 [.imm 5 R1] = (VP l).map fun r => .b r := by
 obtain ⟨rfl⟩ := H1
 rw [Qc]
 simp -dsimp +contextual only [↓evA, eZ, Nat.reduceAdd, Nat.reduceMul, Nat.reduceBEq, Nat.reduceLeDiff, Nat.reduceLT, Tryz.func160, Tryz.f160, QN3, QzD, Qj0]
 try simp only [VP, eY]
 all_goals rfl
theorem QgT {R1 l R2 a} [H1 : EncL Va R1 l] [H2 : EncR Va R2 a] : CP T (n + 9) 138 [.imm 5 R1, .agg R2] = (Qb6 l a).map fun r => .tup [.own 5 (r.1.map Va), .b r.2] := by
 rcases H1, H2 with ⟨⟨rfl⟩, ⟨rfl⟩⟩
 rw [Qc]
 simp -dsimp +contextual only [↓evA, eZ, Nat.reduceAdd, Nat.reduceMul, Nat.reduceBEq, Nat.reduceLeDiff, Nat.reduceLT, Tryz.func138, Tryz.f138, QQb, QDp, Qgy, QeA, QeN]
 try simp only [Qb6, eY]
 try simp only [List.contains_nil, Bool.not_false, Bool.and_true, VC, List.length_append, List.length_cons, List.length_nil, Nat.zero_add, Vz, VK]
 all_goals first | rfl | (simp +contextual only [evN] <;> rfl)
theorem Qgi (v a a2) {R1 s} [H1 : EncL c_b R1 s] : LP T (n + 1) 239 2 (frm [(0, .imm 1 R1), (1, .b v), (7, .i .i64 a), (8, .i .i64 a2)]) [] =
  VU (run (Xg s v a) a2) (fun (zr : Int) => (XE.ret, frm [(4, .i .i64 zr)], [])) (fun (zr : Unit) => (XE.exit 0, frm [], [])) := by
 obtain ⟨rfl⟩ := H1
 rw [Qm]
 simp -dsimp only [↓evA, evB, Qf, Tryz.func239, Tryz.f239, QNG, Qxy, TP, TZ, Nat.reduceAdd, Nat.reduceMul, Nat.reduceBEq, Nat.reduceLeDiff, Nat.reduceLT]
 apply Ql a2
 intro a2
 simp -dsimp +contextual only [↓evA, eZ, Nat.reduceAdd, Nat.reduceMul, Nat.reduceBEq, Nat.reduceLeDiff, Nat.reduceLT]
 try simp only [Xg, eY]
 all_goals rfl
theorem Qin (v) {R1 s} [H1 : EncL c_b R1 s] : CP T (n + 2) 239 [.imm 1 R1, .b v] = (Qbl s v).map fun r => .i .i64 r := by
 obtain ⟨rfl⟩ := H1
 rw [Qc]
 simp -dsimp +contextual only [↓evA, eZ, Nat.reduceAdd, Nat.reduceMul, Nat.reduceBEq, Nat.reduceLeDiff, Nat.reduceLT, Tryz.func239, Tryz.f239, QNG, Qxy, Qgi]
 try simp only [Qbl, eY]
 all_goals rfl
theorem QaD (v) {R1 s} [H1 : EncL c_b R1 s] : CP T (n + 3) 183 [.imm 1 R1, .b v] = (VB s v).map fun r => .b r := by
 obtain ⟨rfl⟩ := H1
 rw [Qc]
 simp -dsimp +contextual only [↓evA, eZ, Nat.reduceAdd, Nat.reduceMul, Nat.reduceBEq, Nat.reduceLeDiff, Nat.reduceLT, Tryz.func183, Tryz.f183, a183, QAm, Qin]
 try simp only [VB, eY]
 all_goals rfl
theorem Qh7 (a3 a4 a6 a7) {R1 l R2 a R3 a2 R4 a5} [H1 : EncL Qg R1 l] [H2 : EncR Qg R2 a] [H3 : EncL Qg R3 a2] [H4 : EncL Qg R4 a5] : LP T (n + 1) 159 9 (frm [(0, .imm 5 R1), (4, .ptr 0 0 0), (10, .imm 5 R3), (11, .i .i64 a3), (12, .i .i64 a4), (62, .imm 5 R4), (63, .i .i64 a6), (64, .i .i64 a7)]) [some (Ent.box R2)] =
  VU (run (Xo l a a2 a3 a4 a5 a6) a7) (fun (zr : Bool) => (XE.ret, frm [(2, .b zr)], [])) (fun (zr : Unit) => (XE.exit 2, frm [(0, .imm 5 (l.map Qg)), (10, .imm 5 (a2.map Qg)), (11, .i .i64 a3), (12, .i .i64 a4)], [])) := by
 rcases H1, H2, H3, H4 with ⟨⟨rfl⟩, ⟨rfl⟩, ⟨rfl⟩, ⟨rfl⟩⟩
 rw [Qm]
 simp -dsimp only [↓evA, evB, Qf, Tryz.func159, Tryz.f159, QEn, Qvh, TP, TZ, Nat.reduceAdd, Nat.reduceMul, Nat.reduceBEq, Nat.reduceLeDiff, Nat.reduceLT]
 apply Ql a7
 intro a7
 simp -dsimp +contextual only [↓evA, eZ, Nat.reduceAdd, Nat.reduceMul, Nat.reduceBEq, Nat.reduceLeDiff, Nat.reduceLT]
 try simp only [Xo, eY]
 all_goals rfl
theorem Qie (a2 a3) {R1 l R2 a} [H1 : EncL Qg R1 l] [H2 : EncL Qg R2 a] : LP T (n + 2) 159 4 (frm [(0, .imm 5 R1), (10, .imm 5 R2), (11, .i .i64 a2), (12, .i .i64 a3)]) [] =
  VU (run (X7 l a a2) a3) (fun (zr : Bool) => (XE.ret, frm [(2, .b zr)], [])) (fun (zr : Unit) => (XE.exit 0, frm [], [])) := by
 rcases H1, H2 with ⟨⟨rfl⟩, ⟨rfl⟩⟩
 rw [Qm]
 simp -dsimp only [↓evA, evB, Qf, Tryz.func159, Tryz.f159, QEn, Qvh, TP, TZ, Nat.reduceAdd, Nat.reduceMul, Nat.reduceBEq, Nat.reduceLeDiff, Nat.reduceLT]
 apply Ql a3
 intro a3
 simp -dsimp +contextual only [↓evA, eZ, Nat.reduceAdd, Nat.reduceMul, Nat.reduceBEq, Nat.reduceLeDiff, Nat.reduceLT, QV, Qh7]
 try simp only [X7, eY]
 all_goals rfl
theorem QdU {R1 l} [H1 : EncL Qg R1 l] : CP T (n + 3) 159 [.imm 5 R1] = (V1 l).map fun r => .b r := by
 obtain ⟨rfl⟩ := H1
 rw [Qc]
 simp -dsimp +contextual only [↓evA, eZ, Nat.reduceAdd, Nat.reduceMul, Nat.reduceBEq, Nat.reduceLeDiff, Nat.reduceLT, Tryz.func159, Tryz.f159, QEn, Qvh, Qie]
 try simp only [V1, eY]
 all_goals rfl
theorem Qg0 (a2 a3) {R1 l R2 a} [H1 : EncL QX R1 l] [H2 : EncL QX R2 a] : LP T (n + 2) 161 4 (frm [(0, .imm 4 R1), (8, .imm 4 R2), (9, .i .i64 a2), (10, .i .i64 a3)]) [] =
  VU (run (XL l a a2) a3) (fun (zr : Bool) => (XE.ret, frm [(2, .b zr)], [])) (fun (zr : Unit) => (XE.exit 0, frm [], [])) := by
 rcases H1, H2 with ⟨⟨rfl⟩, ⟨rfl⟩⟩
 rw [Qm]
 simp -dsimp only [↓evA, evB, Qf, Tryz.func161, Tryz.f161, QLk, Qzu, TP, TZ, Nat.reduceAdd, Nat.reduceMul, Nat.reduceBEq, Nat.reduceLeDiff, Nat.reduceLT]
 apply Ql a3
 intro a3
 simp -dsimp +contextual only [↓evA, eZ, Nat.reduceAdd, Nat.reduceMul, Nat.reduceBEq, Nat.reduceLeDiff, Nat.reduceLT, QV]
 try simp only [XL, eY]
 all_goals rfl
theorem Qe8 {R1 l} [H1 : EncL QX R1 l] : CP T (n + 3) 161 [.imm 4 R1] = (Ju l).map fun r => .b r := by
 obtain ⟨rfl⟩ := H1
 rw [Qc]
 simp -dsimp +contextual only [↓evA, eZ, Nat.reduceAdd, Nat.reduceMul, Nat.reduceBEq, Nat.reduceLeDiff, Nat.reduceLT, Tryz.func161, Tryz.f161, QLk, Qzu, Qg0]
 try simp only [Ju, eY]
 all_goals rfl
theorem Qkg (a a3 a4) {R1 l R2 o R3 a2} [H1 : EncL Va R1 l] [H2 : EncL Vf R2 o] [H3 : EncL Va R3 a2] : LP T (n + 3) 236 5 (frm [(0, .imm 5 R1), (1, .i .i64 a), (5, .sl 0), (13, .imm 5 R3), (14, .i .i64 a3), (15, .i .i64 a4)]) [some (Ent.lst 1 R2)] =
  (run (Zx l a a2 a3) (o, a4)).map (fun (zr : (List Int)) => (XE.exit 0, frm [(5, .sl 0)], [some (Ent.lst 1 (zr.map Vf))])) := by
 rcases H1, H2, H3 with ⟨⟨rfl⟩, ⟨rfl⟩, ⟨rfl⟩⟩
 rw [Qm]
 simp -dsimp only [↓evA, evB, Qf, Tryz.func236, Tryz.f236, QMm, Qza, TP, TZ, Nat.reduceAdd, Nat.reduceMul, Nat.reduceBEq, Nat.reduceLeDiff, Nat.reduceLT]
 apply QH o a4
 intro o a4
 simp -dsimp +contextual only [↓evA, eZ, Nat.reduceAdd, Nat.reduceMul, Nat.reduceBEq, Nat.reduceLeDiff, Nat.reduceLT, srt, Qgt]
 try simp only [Zx, eY]
 all_goals rfl
theorem QoI (a) {R1 l} [H1 : EncL Va R1 l] : CP T (n + 9) 236 [.imm 5 R1, .i .i64 a] = (Qdj l a).map fun r => .own 1 (r.map Vf) := by
 obtain ⟨rfl⟩ := H1
 rw [Qc]
 simp -dsimp +contextual only [↓evA, eZ, Nat.reduceAdd, Nat.reduceMul, Nat.reduceBEq, Nat.reduceLeDiff, Nat.reduceLT, Tryz.func236, Tryz.f236, QMm, Qza, srt, QeN, Qkg]
 try simp only [Qdj, eY]
 all_goals first | rfl | (simp +contextual only [evN] <;> rfl)
end Go.Proofs.YtcdffihcfeajfaaGreat
