import Derived.Test.YtcdffihcfeajfaaGreatEc
namespace Go.Proofs.YtcdffihcfeajfaaGreat
open Go Go.Proofs Go.Proofs.YtcdffihcfeajfaaGreat.Am
set_option maxHeartbeats 4000000
set_option linter.unusedVariables false
set_option linter.unusedSimpArgs false
set_option linter.defProp false
set_option maxRecDepth 100000
variable (n : Nat)
theorem QoT (l) {R1 a} [H1 : EncL Qv R1 a] : CP T (n + 1) 85 [.imm 8 R1, .i .i64 l] = (Qdb a l).map fun r => .i .i64 r := by
 obtain ⟨rfl⟩ := H1
 rw [Qc]
 simp -dsimp +contextual only [↓evA, eZ, Nat.reduceAdd, Nat.reduceMul, Nat.reduceBEq, Nat.reduceLeDiff, Nat.reduceLT, Tryz.func85, Tryz.f85, a85, n85]
 try simp only [Qdb, eY]
 all_goals rfl
theorem Qhc (l) {R1 a} [H1 : EncL Q9 R1 a] : CP T (n + 1) 34 [.imm 2 R1, .i .i64 l] = (Qb1 a l).map fun r => .i .i64 r := by
 obtain ⟨rfl⟩ := H1
 rw [Qc]
 simp -dsimp +contextual only [↓evA, eZ, Nat.reduceAdd, Nat.reduceMul, Nat.reduceBEq, Nat.reduceLeDiff, Nat.reduceLT, Tryz.func34, Tryz.f34, a34, n34]
 try simp only [Qb1, eY]
 all_goals rfl
theorem Qmw (l) {R1 a} [H1 : EncR QC R1 a] : CP T (n + 2) 171 [.agg R1, .i .i64 l] = (Qbf a l).map fun r => .i .i64 r := by
 obtain ⟨rfl⟩ := H1
 rw [Qc]
 simp -dsimp +contextual only [↓evA, eZ, Nat.reduceAdd, Nat.reduceMul, Nat.reduceBEq, Nat.reduceLeDiff, Nat.reduceLT, Tryz.func171, Tryz.f171, QP4, QC5, Qhc]
 try simp only [Qbf, eY]
 all_goals rfl
theorem Qic (l i) {R1 a} [H1 : EncL QC R1 a] : LP T (n + 3) 86 5 (frm [(0, .imm 3 R1), (1, .i .i64 l), (5, .i .i64 i)]) [] =
  VU (run (Jg a) (l, i)) (fun (zr : Int) => (XE.ret, frm [(4, .i .i64 zr)], [])) (fun (zr : Int) => (XE.exit 0, frm [(1, .i .i64 zr)], [])) := by
 obtain ⟨rfl⟩ := H1
 rw [Qm]
 simp -dsimp only [↓evA, evB, Qf, Tryz.func86, Tryz.f86, a86, n86, TP, TZ, Nat.reduceAdd, Nat.reduceMul, Nat.reduceBEq, Nat.reduceLeDiff, Nat.reduceLT]
 apply QH l i
 intro l i
 simp -dsimp +contextual only [↓evA, eZ, Nat.reduceAdd, Nat.reduceMul, Nat.reduceBEq, Nat.reduceLeDiff, Nat.reduceLT, Qmw]
 try simp only [Jg, eY]
 all_goals rfl
theorem Qk9 (l) {R1 a} [H1 : EncL QC R1 a] : CP T (n + 4) 86 [.imm 3 R1, .i .i64 l] = (Qbz a l).map fun r => .i .i64 r := by
 obtain ⟨rfl⟩ := H1
 rw [Qc]
 simp -dsimp +contextual only [↓evA, eZ, Nat.reduceAdd, Nat.reduceMul, Nat.reduceBEq, Nat.reduceLeDiff, Nat.reduceLT, Tryz.func86, Tryz.f86, a86, n86, Qic]
 try simp only [Qbz, eY]
 all_goals rfl
theorem QoN (l) {R1 a} [H1 : EncL QP R1 a] : CP T (n + 1) 13 [.imm 3 R1, .i .i64 l] = (QdB a l).map fun r => .i .i64 r := by
 obtain ⟨rfl⟩ := H1
 rw [Qc]
 simp -dsimp +contextual only [↓evA, eZ, Nat.reduceAdd, Nat.reduceMul, Nat.reduceBEq, Nat.reduceLeDiff, Nat.reduceLT, Tryz.func13, Tryz.f13, a13, n13]
 try simp only [QdB, eY]
 all_goals rfl
theorem QmE (l) {R1 a} [H1 : EncL Qg R1 a] : CP T (n + 1) 87 [.imm 5 R1, .i .i64 l] = (QcI a l).map fun r => .i .i64 r := by
 obtain ⟨rfl⟩ := H1
 rw [Qc]
 simp -dsimp +contextual only [↓evA, eZ, Nat.reduceAdd, Nat.reduceMul, Nat.reduceBEq, Nat.reduceLeDiff, Nat.reduceLT, Tryz.func87, Tryz.f87, a87, n87]
 try simp only [QcI, eY]
 all_goals rfl
theorem QmK (l) {R1 a} [H1 : EncL QJ R1 a] : CP T (n + 1) 88 [.imm 4 R1, .i .i64 l] = (QcC a l).map fun r => .i .i64 r := by
 obtain ⟨rfl⟩ := H1
 rw [Qc]
 simp -dsimp +contextual only [↓evA, eZ, Nat.reduceAdd, Nat.reduceMul, Nat.reduceBEq, Nat.reduceLeDiff, Nat.reduceLT, Tryz.func88, Tryz.f88, a88, n88]
 try simp only [QcC, eY]
 all_goals rfl
theorem Qn0 (l) {R1 a} [H1 : EncL Va R1 a] : CP T (n + 1) 89 [.imm 5 R1, .i .i64 l] = (Qdr a l).map fun r => .i .i64 r := by
 obtain ⟨rfl⟩ := H1
 rw [Qc]
 simp -dsimp +contextual only [↓evA, eZ, Nat.reduceAdd, Nat.reduceMul, Nat.reduceBEq, Nat.reduceLeDiff, Nat.reduceLT, Tryz.func89, Tryz.f89, a89, n89]
 try simp only [Qdr, eY]
 all_goals rfl
theorem QmC (l) {R1 a} [H1 : EncL QX R1 a] : CP T (n + 1) 90 [.imm 4 R1, .i .i64 l] = (Qcz a l).map fun r => .i .i64 r := by
 obtain ⟨rfl⟩ := H1
 rw [Qc]
 simp -dsimp +contextual only [↓evA, eZ, Nat.reduceAdd, Nat.reduceMul, Nat.reduceBEq, Nat.reduceLeDiff, Nat.reduceLT, Tryz.func90, Tryz.f90, a90, n90]
 try simp only [Qcz, eY]
 all_goals rfl
theorem QnM (l) {R1 a} [H1 : EncR QD R1 a] : CP T (n + 5) 22 [.agg R1, .i .i64 l] = (QdE a l).map fun r => .i .i64 r := by
 obtain ⟨rfl⟩ := H1
 rw [Qc]
 simp -dsimp +contextual (maxSteps := 100000000) only [↓evA, eZ, Nat.reduceAdd, Nat.reduceMul, Nat.reduceBEq, Nat.reduceLeDiff, Nat.reduceLT, Tryz.func22, Tryz.f22, a22, n22, QoT, Qk9, QoN, QmE, QmK, Qn0, QmC]
 try simp only [QdE, eY]
 all_goals rfl
theorem Qpm (l) {R1 a} [H1 : EncL Vu R1 a] : CP T (n + 1) 41 [.imm 3 R1, .i .i64 l] = (Qep a l).map fun r => .i .i64 r := by
 obtain ⟨rfl⟩ := H1
 rw [Qc]
 simp -dsimp +contextual only [↓evA, eZ, Nat.reduceAdd, Nat.reduceMul, Nat.reduceBEq, Nat.reduceLeDiff, Nat.reduceLT, Tryz.func41, Tryz.f41, a41, n41]
 try simp only [Qep, eY]
 all_goals rfl
theorem Qn4 (l) {R1 a} [H1 : EncR QdZ R1 a] : CP T (n + 2) 47 [.agg R1, .i .i64 l] = (QdG a l).map fun r => .i .i64 r := by
 obtain ⟨rfl⟩ := H1
 rw [Qc]
 simp -dsimp +contextual only [↓evA, eZ, Nat.reduceAdd, Nat.reduceMul, Nat.reduceBEq, Nat.reduceLeDiff, Nat.reduceLT, Tryz.func47, Tryz.f47, a47, n47, Qhc, Qpm]
 try simp only [QdG, eY]
 all_goals rfl
theorem Qou {R1 a} [H1 : EncR ZR R1 a] : CP T (n + 1) 133 [.agg R1] = (QbU a).map fun r => .agg (ZR r) := by
 obtain ⟨rfl⟩ := H1
 rw [Qc]
 simp -dsimp +contextual only [↓evA, eZ, Nat.reduceAdd, Nat.reduceMul, Nat.reduceBEq, Nat.reduceLeDiff, Nat.reduceLT, Tryz.func133, Tryz.f133, QQA, QCC]
 try simp only [QbU, eY]
 all_goals rfl
theorem Qiw {R1 a} [H1 : EncR Qv R1 a] : CP T (n + 2) 36 [.agg R1] = (QbJ a).map fun r => .agg (Qv r) := by
 obtain ⟨rfl⟩ := H1
 rw [Qc]
 simp -dsimp +contextual only [↓evA, eZ, Nat.reduceAdd, Nat.reduceMul, Nat.reduceBEq, Nat.reduceLeDiff, Nat.reduceLT, Tryz.func36, Tryz.f36, a36, n36, Qou]
 try simp only [QbJ, eY]
 all_goals rfl
theorem Qjo (i) {R1 a R2 o} [H1 : EncL Qv R1 a] [H2 : EncL Qv R2 o] : LP T (n + 3) 93 3 (frm [(0, .imm 8 R1), (3, .sl 0), (4, .i .i64 i)]) [some (Ent.lst 8 R2)] =
  (run (Zl a) (o, i)).map (fun (zr : (List Find)) => (XE.exit 0, frm [(3, .sl 0)], [some (Ent.lst 8 (zr.map Qv))])) := by
 rcases H1, H2 with ⟨⟨rfl⟩, ⟨rfl⟩⟩
 rw [Qm]
 simp -dsimp only [↓evA, evB, Qf, Tryz.func93, Tryz.f93, a93, n93, TP, TZ, Nat.reduceAdd, Nat.reduceMul, Nat.reduceBEq, Nat.reduceLeDiff, Nat.reduceLT]
 apply QH o i
 intro o i
 simp -dsimp +contextual only [↓evA, eZ, Nat.reduceAdd, Nat.reduceMul, Nat.reduceBEq, Nat.reduceLeDiff, Nat.reduceLT, Qiw]
 try simp only [Zl, eY]
 all_goals rfl
theorem Qoc {R1 a} [H1 : EncL Qv R1 a] : CP T (n + 4) 93 [.imm 8 R1] = (Qdp a).map fun r => .own 8 (r.map Qv) := by
 obtain ⟨rfl⟩ := H1
 rw [Qc]
 simp -dsimp +contextual only [↓evA, eZ, Nat.reduceAdd, Nat.reduceMul, Nat.reduceBEq, Nat.reduceLeDiff, Nat.reduceLT, Tryz.func93, Tryz.f93, a93, n93, Qjo]
 try simp only [Qdp, eY]
 all_goals first | rfl | (simp +contextual only [evN] <;> rfl)
theorem Qpf {R1 a} [H1 : EncR Q9 R1 a] : CP T (n + 1) 134 [.agg R1] = (QcX a).map fun r => .agg (Q9 r) := by
 obtain ⟨rfl⟩ := H1
 rw [Qc]
 simp -dsimp +contextual only [↓evA, eZ, Nat.reduceAdd, Nat.reduceMul, Nat.reduceBEq, Nat.reduceLeDiff, Nat.reduceLT, Tryz.func134, Tryz.f134, QP7, QBz]
 try simp only [QcX, eY]
 all_goals rfl
theorem Qkk (i) {R1 a R2 o} [H1 : EncL Q9 R1 a] [H2 : EncL Q9 R2 o] : LP T (n + 2) 37 3 (frm [(0, .imm 2 R1), (3, .sl 0), (4, .i .i64 i)]) [some (Ent.lst 2 R2)] =
  (run (Zm a) (o, i)).map (fun (zr : (List Mark)) => (XE.exit 0, frm [(3, .sl 0)], [some (Ent.lst 2 (zr.map Q9))])) := by
 rcases H1, H2 with ⟨⟨rfl⟩, ⟨rfl⟩⟩
 rw [Qm]
 simp -dsimp only [↓evA, evB, Qf, Tryz.func37, Tryz.f37, a37, n37, TP, TZ, Nat.reduceAdd, Nat.reduceMul, Nat.reduceBEq, Nat.reduceLeDiff, Nat.reduceLT]
 apply QH o i
 intro o i
 simp -dsimp +contextual only [↓evA, eZ, Nat.reduceAdd, Nat.reduceMul, Nat.reduceBEq, Nat.reduceLeDiff, Nat.reduceLT, Qpf]
 try simp only [Zm, eY]
 all_goals rfl
theorem QgR {R1 a} [H1 : EncL Q9 R1 a] : CP T (n + 3) 37 [.imm 2 R1] = (Qb3 a).map fun r => .own 2 (r.map Q9) := by
 obtain ⟨rfl⟩ := H1
 rw [Qc]
 simp -dsimp +contextual only [↓evA, eZ, Nat.reduceAdd, Nat.reduceMul, Nat.reduceBEq, Nat.reduceLeDiff, Nat.reduceLT, Tryz.func37, Tryz.f37, a37, n37, Qkk]
 try simp only [Qb3, eY]
 all_goals first | rfl | (simp +contextual only [evN] <;> rfl)
theorem Qmi {R1 a} [H1 : EncR QC R1 a] : CP T (n + 4) 172 [.agg R1] = (Qbg a).map fun r => .agg (QG r) := by
 obtain ⟨rfl⟩ := H1
 rw [Qc]
 simp -dsimp +contextual only [↓evA, eZ, Nat.reduceAdd, Nat.reduceMul, Nat.reduceBEq, Nat.reduceLeDiff, Nat.reduceLT, Tryz.func172, Tryz.f172, QR4, QCP, QgR]
 try simp only [Qbg, eY]
 all_goals rfl
theorem Qh1 (i) {R1 a R2 o} [H1 : EncL QC R1 a] [H2 : EncL QG R2 o] : LP T (n + 5) 94 3 (frm [(0, .imm 3 R1), (3, .sl 0), (4, .i .i64 i)]) [some (Ent.lst 3 R2)] =
  (run (Ji a) (o, i)).map (fun (zr : (List Secret)) => (XE.exit 0, frm [(3, .sl 0)], [some (Ent.lst 3 (zr.map QG))])) := by
 rcases H1, H2 with ⟨⟨rfl⟩, ⟨rfl⟩⟩
 rw [Qm]
 simp -dsimp only [↓evA, evB, Qf, Tryz.func94, Tryz.f94, a94, n94, TP, TZ, Nat.reduceAdd, Nat.reduceMul, Nat.reduceBEq, Nat.reduceLeDiff, Nat.reduceLT]
 apply QH o i
 intro o i
 simp -dsimp +contextual only [↓evA, eZ, Nat.reduceAdd, Nat.reduceMul, Nat.reduceBEq, Nat.reduceLeDiff, Nat.reduceLT, Qmi]
 try simp only [Ji, eY]
 all_goals rfl
theorem QkL {R1 a} [H1 : EncL QC R1 a] : CP T (n + 6) 94 [.imm 3 R1] = (Qbq a).map fun r => .own 3 (r.map QG) := by
 obtain ⟨rfl⟩ := H1
 rw [Qc]
 simp -dsimp +contextual only [↓evA, eZ, Nat.reduceAdd, Nat.reduceMul, Nat.reduceBEq, Nat.reduceLeDiff, Nat.reduceLT, Tryz.func94, Tryz.f94, a94, n94, Qh1]
 try simp only [Qbq, eY]
 all_goals first | rfl | (simp +contextual only [evN] <;> rfl)
theorem Qpo {R1 a} [H1 : EncR QP R1 a] : CP T (n + 1) 62 [.agg R1] = (QcY a).map fun r => .agg (QP r) := by
 obtain ⟨rfl⟩ := H1
 rw [Qc]
 simp -dsimp +contextual only [↓evA, eZ, Nat.reduceAdd, Nat.reduceMul, Nat.reduceBEq, Nat.reduceLeDiff, Nat.reduceLT, Tryz.func62, Tryz.f62, a62, n62]
 try simp only [QcY, eY]
 all_goals rfl
theorem Qjl (i) {R1 a R2 o} [H1 : EncL QP R1 a] [H2 : EncL QP R2 o] : LP T (n + 2) 15 3 (frm [(0, .imm 3 R1), (3, .sl 0), (4, .i .i64 i)]) [some (Ent.lst 3 R2)] =
  (run (Zy a) (o, i)).map (fun (zr : (List Slot)) => (XE.exit 0, frm [(3, .sl 0)], [some (Ent.lst 3 (zr.map QP))])) := by
 rcases H1, H2 with ⟨⟨rfl⟩, ⟨rfl⟩⟩
 rw [Qm]
 simp -dsimp only [↓evA, evB, Qf, Tryz.func15, Tryz.f15, a15, n15, TP, TZ, Nat.reduceAdd, Nat.reduceMul, Nat.reduceBEq, Nat.reduceLeDiff, Nat.reduceLT]
 apply QH o i
 intro o i
 simp -dsimp +contextual only [↓evA, eZ, Nat.reduceAdd, Nat.reduceMul, Nat.reduceBEq, Nat.reduceLeDiff, Nat.reduceLT, Qpo]
 try simp only [Zy, eY]
 all_goals rfl
theorem Qot {R1 a} [H1 : EncL QP R1 a] : CP T (n + 3) 15 [.imm 3 R1] = (Qdx a).map fun r => .own 3 (r.map QP) := by
 obtain ⟨rfl⟩ := H1
 rw [Qc]
 simp -dsimp +contextual only [↓evA, eZ, Nat.reduceAdd, Nat.reduceMul, Nat.reduceBEq, Nat.reduceLeDiff, Nat.reduceLT, Tryz.func15, Tryz.f15, a15, n15, Qjl]
 try simp only [Qdx, eY]
 all_goals first | rfl | (simp +contextual only [evN] <;> rfl)
theorem Qof {R1 a} [H1 : EncR Qg R1 a] : CP T (n + 1) 173 [.agg R1] = (Qcb a).map fun r => .agg (Qg r) := by
 obtain ⟨rfl⟩ := H1
 rw [Qc]
 simp -dsimp +contextual only [↓evA, eZ, Nat.reduceAdd, Nat.reduceMul, Nat.reduceBEq, Nat.reduceLeDiff, Nat.reduceLT, Tryz.func173, Tryz.f173, QRz, QB1]
 try simp only [Qcb, eY]
 all_goals rfl
theorem QiX (i) {R1 a R2 o} [H1 : EncL Qg R1 a] [H2 : EncL Qg R2 o] : LP T (n + 2) 95 3 (frm [(0, .imm 5 R1), (3, .sl 0), (4, .i .i64 i)]) [some (Ent.lst 5 R2)] =
  (run (JX a) (o, i)).map (fun (zr : (List Claim)) => (XE.exit 0, frm [(3, .sl 0)], [some (Ent.lst 5 (zr.map Qg))])) := by
 rcases H1, H2 with ⟨⟨rfl⟩, ⟨rfl⟩⟩
 rw [Qm]
 simp -dsimp only [↓evA, evB, Qf, Tryz.func95, Tryz.f95, a95, n95, TP, TZ, Nat.reduceAdd, Nat.reduceMul, Nat.reduceBEq, Nat.reduceLeDiff, Nat.reduceLT]
 apply QH o i
 intro o i
 simp -dsimp +contextual only [↓evA, eZ, Nat.reduceAdd, Nat.reduceMul, Nat.reduceBEq, Nat.reduceLeDiff, Nat.reduceLT, Qof]
 try simp only [JX, eY]
 all_goals rfl
theorem Qmr {R1 a} [H1 : EncL Qg R1 a] : CP T (n + 3) 95 [.imm 5 R1] = (Qcn a).map fun r => .own 5 (r.map Qg) := by
 obtain ⟨rfl⟩ := H1
 rw [Qc]
 simp -dsimp +contextual only [↓evA, eZ, Nat.reduceAdd, Nat.reduceMul, Nat.reduceBEq, Nat.reduceLeDiff, Nat.reduceLT, Tryz.func95, Tryz.f95, a95, n95, QiX]
 try simp only [Qcn, eY]
 all_goals first | rfl | (simp +contextual only [evN] <;> rfl)
theorem QnH {R1 a} [H1 : EncR QJ R1 a] : CP T (n + 1) 174 [.agg R1] = (QbS a).map fun r => .agg (QJ r) := by
 obtain ⟨rfl⟩ := H1
 rw [Qc]
 simp -dsimp +contextual only [↓evA, eZ, Nat.reduceAdd, Nat.reduceMul, Nat.reduceBEq, Nat.reduceLeDiff, Nat.reduceLT, Tryz.func174, Tryz.f174, QT3, Qz0]
 try simp only [QbS, eY]
 all_goals rfl
theorem Qi1 (i) {R1 a R2 o} [H1 : EncL QJ R1 a] [H2 : EncL QJ R2 o] : LP T (n + 2) 96 3 (frm [(0, .imm 4 R1), (3, .sl 0), (4, .i .i64 i)]) [some (Ent.lst 4 R2)] =
  (run (JT a) (o, i)).map (fun (zr : (List Trial)) => (XE.exit 0, frm [(3, .sl 0)], [some (Ent.lst 4 (zr.map QJ))])) := by
 rcases H1, H2 with ⟨⟨rfl⟩, ⟨rfl⟩⟩
 rw [Qm]
 simp -dsimp only [↓evA, evB, Qf, Tryz.func96, Tryz.f96, a96, n96, TP, TZ, Nat.reduceAdd, Nat.reduceMul, Nat.reduceBEq, Nat.reduceLeDiff, Nat.reduceLT]
 apply QH o i
 intro o i
 simp -dsimp +contextual only [↓evA, eZ, Nat.reduceAdd, Nat.reduceMul, Nat.reduceBEq, Nat.reduceLeDiff, Nat.reduceLT, QnH]
 try simp only [JT, eY]
 all_goals rfl
theorem Qmb {R1 a} [H1 : EncL QJ R1 a] : CP T (n + 3) 96 [.imm 4 R1] = (QcA a).map fun r => .own 4 (r.map QJ) := by
 obtain ⟨rfl⟩ := H1
 rw [Qc]
 simp -dsimp +contextual only [↓evA, eZ, Nat.reduceAdd, Nat.reduceMul, Nat.reduceBEq, Nat.reduceLeDiff, Nat.reduceLT, Tryz.func96, Tryz.f96, a96, n96, Qi1]
 try simp only [QcA, eY]
 all_goals first | rfl | (simp +contextual only [evN] <;> rfl)
theorem Qpp {R1 a} [H1 : EncR Va R1 a] : CP T (n + 1) 175 [.agg R1] = (Qc0 a).map fun r => .agg (Va r) := by
 obtain ⟨rfl⟩ := H1
 rw [Qc]
 simp -dsimp +contextual only [↓evA, eZ, Nat.reduceAdd, Nat.reduceMul, Nat.reduceBEq, Nat.reduceLeDiff, Nat.reduceLT, Tryz.func175, Tryz.f175, QSX, QB5]
 try simp only [Qc0, eY]
 all_goals rfl
theorem Qko (i) {R1 a R2 o} [H1 : EncL Va R1 a] [H2 : EncL Va R2 o] : LP T (n + 2) 97 3 (frm [(0, .imm 5 R1), (3, .sl 0), (4, .i .i64 i)]) [some (Ent.lst 5 R2)] =
  (run (Zs a) (o, i)).map (fun (zr : (List Hand)) => (XE.exit 0, frm [(3, .sl 0)], [some (Ent.lst 5 (zr.map Va))])) := by
 rcases H1, H2 with ⟨⟨rfl⟩, ⟨rfl⟩⟩
 rw [Qm]
 simp -dsimp only [↓evA, evB, Qf, Tryz.func97, Tryz.f97, a97, n97, TP, TZ, Nat.reduceAdd, Nat.reduceMul, Nat.reduceBEq, Nat.reduceLeDiff, Nat.reduceLT]
 apply QH o i
 intro o i
 simp -dsimp +contextual only [↓evA, eZ, Nat.reduceAdd, Nat.reduceMul, Nat.reduceBEq, Nat.reduceLeDiff, Nat.reduceLT, Qpp]
 try simp only [Zs, eY]
 all_goals rfl
theorem Qnk {R1 a} [H1 : EncL Va R1 a] : CP T (n + 3) 97 [.imm 5 R1] = (Qc7 a).map fun r => .own 5 (r.map Va) := by
 obtain ⟨rfl⟩ := H1
 rw [Qc]
 simp -dsimp +contextual only [↓evA, eZ, Nat.reduceAdd, Nat.reduceMul, Nat.reduceBEq, Nat.reduceLeDiff, Nat.reduceLT, Tryz.func97, Tryz.f97, a97, n97, Qko]
 try simp only [Qc7, eY]
 all_goals first | rfl | (simp +contextual only [evN] <;> rfl)
theorem Qoh {R1 a} [H1 : EncR QX R1 a] : CP T (n + 1) 176 [.agg R1] = (Qcc a).map fun r => .agg (QX r) := by
 obtain ⟨rfl⟩ := H1
 rw [Qc]
 simp -dsimp +contextual only [↓evA, eZ, Nat.reduceAdd, Nat.reduceMul, Nat.reduceBEq, Nat.reduceLeDiff, Nat.reduceLT, Tryz.func176, Tryz.f176, QR6, QDj]
 try simp only [Qcc, eY]
 all_goals rfl
theorem QiU (i) {R1 a R2 o} [H1 : EncL QX R1 a] [H2 : EncL QX R2 o] : LP T (n + 2) 98 3 (frm [(0, .imm 4 R1), (3, .sl 0), (4, .i .i64 i)]) [some (Ent.lst 4 R2)] =
  (run (J6 a) (o, i)).map (fun (zr : (List Entry)) => (XE.exit 0, frm [(3, .sl 0)], [some (Ent.lst 4 (zr.map QX))])) := by
 rcases H1, H2 with ⟨⟨rfl⟩, ⟨rfl⟩⟩
 rw [Qm]
 simp -dsimp only [↓evA, evB, Qf, Tryz.func98, Tryz.f98, a98, n98, TP, TZ, Nat.reduceAdd, Nat.reduceMul, Nat.reduceBEq, Nat.reduceLeDiff, Nat.reduceLT]
 apply QH o i
 intro o i
 simp -dsimp +contextual only [↓evA, eZ, Nat.reduceAdd, Nat.reduceMul, Nat.reduceBEq, Nat.reduceLeDiff, Nat.reduceLT, Qoh]
 try simp only [J6, eY]
 all_goals rfl
theorem Qmd {R1 a} [H1 : EncL QX R1 a] : CP T (n + 3) 98 [.imm 4 R1] = (QcH a).map fun r => .own 4 (r.map QX) := by
 obtain ⟨rfl⟩ := H1
 rw [Qc]
 simp -dsimp +contextual only [↓evA, eZ, Nat.reduceAdd, Nat.reduceMul, Nat.reduceBEq, Nat.reduceLeDiff, Nat.reduceLT, Tryz.func98, Tryz.f98, a98, n98, QiU]
 try simp only [QcH, eY]
 all_goals first | rfl | (simp +contextual only [evN] <;> rfl)
theorem QoC {R1 a} [H1 : EncR QD R1 a] : CP T (n + 7) 24 [.agg R1] = (JE a).map fun r => .agg (VG r) := by
 obtain ⟨rfl⟩ := H1
 rw [Qc]
 simp -dsimp +contextual (maxSteps := 100000000) only [↓evA, eZ, Nat.reduceAdd, Nat.reduceMul, Nat.reduceBEq, Nat.reduceLeDiff, Nat.reduceLT, Tryz.func24, Tryz.f24, a24, n24, Qoc, QkL, Qot, Qmr, Qmb, Qnk, Qmd]
 try simp only [JE, eY]
 all_goals rfl
theorem QqJ {R1 a} [H1 : EncR Vu R1 a] : CP T (n + 1) 142 [.agg R1] = (QdX a).map fun r => .agg (Vu r) := by
 obtain ⟨rfl⟩ := H1
 rw [Qc]
 simp -dsimp +contextual only [↓evA, eZ, Nat.reduceAdd, Nat.reduceMul, Nat.reduceBEq, Nat.reduceLeDiff, Nat.reduceLT, Tryz.func142, Tryz.f142, QUK, QBE]
 try simp only [QdX, eY]
 all_goals rfl
theorem Qlf (i) {R1 a R2 o} [H1 : EncL Vu R1 a] [H2 : EncL Vu R2 o] : LP T (n + 2) 43 3 (frm [(0, .imm 3 R1), (3, .sl 0), (4, .i .i64 i)]) [some (Ent.lst 3 R2)] =
  (run (Qai a) (o, i)).map (fun (zr : (List Bid)) => (XE.exit 0, frm [(3, .sl 0)], [some (Ent.lst 3 (zr.map Vu))])) := by
 rcases H1, H2 with ⟨⟨rfl⟩, ⟨rfl⟩⟩
 rw [Qm]
 simp -dsimp only [↓evA, evB, Qf, Tryz.func43, Tryz.f43, a43, n43, TP, TZ, Nat.reduceAdd, Nat.reduceMul, Nat.reduceBEq, Nat.reduceLeDiff, Nat.reduceLT]
 apply QH o i
 intro o i
 simp -dsimp +contextual only [↓evA, eZ, Nat.reduceAdd, Nat.reduceMul, Nat.reduceBEq, Nat.reduceLeDiff, Nat.reduceLT, QqJ]
 try simp only [Qai, eY]
 all_goals rfl
theorem Qpb {R1 a} [H1 : EncL Vu R1 a] : CP T (n + 3) 43 [.imm 3 R1] = (Qej a).map fun r => .own 3 (r.map Vu) := by
 obtain ⟨rfl⟩ := H1
 rw [Qc]
 simp -dsimp +contextual only [↓evA, eZ, Nat.reduceAdd, Nat.reduceMul, Nat.reduceBEq, Nat.reduceLeDiff, Nat.reduceLT, Tryz.func43, Tryz.f43, a43, n43, Qlf]
 try simp only [Qej, eY]
 all_goals first | rfl | (simp +contextual only [evN] <;> rfl)
theorem QoM {R1 a} [H1 : EncR QdZ R1 a] : CP T (n + 4) 49 [.agg R1] = (JF a).map fun r => .agg (Qkz r) := by
 obtain ⟨rfl⟩ := H1
 rw [Qc]
 simp -dsimp +contextual only [↓evA, eZ, Nat.reduceAdd, Nat.reduceMul, Nat.reduceBEq, Nat.reduceLeDiff, Nat.reduceLT, Tryz.func49, Tryz.f49, a49, n49, Qiw, QgR, Qpb]
 try simp only [JF, eY]
 all_goals rfl
theorem Qku (i) {R1 l R2 o} [H1 : EncL QC R1 l] [H2 : EncL QG R2 o] : LP T (n + 1) 147 3 (frm [(0, .imm 3 R1), (3, .sl 0), (4, .i .i64 i)]) [some (Ent.lst 3 R2)] =
  (run (Jv l) (o, i)).map (fun (zr : (List Secret)) => (XE.exit 0, frm [(3, .sl 0)], [some (Ent.lst 3 (zr.map QG))])) := by
 rcases H1, H2 with ⟨⟨rfl⟩, ⟨rfl⟩⟩
 rw [Qm]
 simp -dsimp only [↓evA, evB, Qf, Tryz.func147, Tryz.f147, QIC, Qzw, TP, TZ, Nat.reduceAdd, Nat.reduceMul, Nat.reduceBEq, Nat.reduceLeDiff, Nat.reduceLT]
 apply QH o i
 intro o i
 simp -dsimp +contextual only [↓evA, eZ, Nat.reduceAdd, Nat.reduceMul, Nat.reduceBEq, Nat.reduceLeDiff, Nat.reduceLT]
 try simp only [Jv, eY]
 all_goals rfl
theorem Qhf {R1 l} [H1 : EncL QC R1 l] : CP T (n + 2) 147 [.imm 3 R1] = (V4 l).map fun r => .own 3 (r.map QG) := by
 obtain ⟨rfl⟩ := H1
 rw [Qc]
 simp -dsimp +contextual only [↓evA, eZ, Nat.reduceAdd, Nat.reduceMul, Nat.reduceBEq, Nat.reduceLeDiff, Nat.reduceLT, Tryz.func147, Tryz.f147, QIC, Qzw, Qku]
 try simp only [V4, eY]
 all_goals first | rfl | (simp +contextual only [evN] <;> rfl)
theorem V2 {R1 a} [H1 : EncR QD R1 a] : CP T (n + 3) 59 [.agg R1] = (Vy a).map fun r => .agg (VG r) := by
 obtain ⟨rfl⟩ := H1
 rw [Qc]
 simp -dsimp +contextual (maxSteps := 100000000) only [↓evA, eZ, Nat.reduceAdd, Nat.reduceMul, Nat.reduceBEq, Nat.reduceLeDiff, Nat.reduceLT, Tryz.func59, Tryz.f59, a59, n59, Qhf]
 try simp only [Vy, eY]
 all_goals rfl
theorem Vr (a l m) : CP T (n + 1) 91 [.i .i64 a, .i .i64 l, .i .i64 m] = (Qe a l m).map fun r => .b r := by
 rw [Qc]
 simp -dsimp +contextual only [↓evA, eZ, Nat.reduceAdd, Nat.reduceMul, Nat.reduceBEq, Nat.reduceLeDiff, Nat.reduceLT, Tryz.func91, Tryz.f91, a91, n91]
 try simp only [Qe, eY]
 all_goals rfl
theorem QeQ {R1 a} [H1 : EncR ZR R1 a] : CP T (n + 2) 208 [.agg R1] = (Xq a).map fun r => .b r := by
 obtain ⟨rfl⟩ := H1
 rw [Qc]
 simp -dsimp +contextual only [↓evA, eZ, Nat.reduceAdd, Nat.reduceMul, Nat.reduceBEq, Nat.reduceLeDiff, Nat.reduceLT, Tryz.func208, Tryz.f208, QRI, QCJ, Vr]
 try simp only [Xq, eY]
 all_goals rfl
theorem QfE {R1 f} [H1 : EncR Qv R1 f] : CP T (n + 3) 229 [.agg R1] = (Xx f).map fun r => .b r := by
 obtain ⟨rfl⟩ := H1
 rw [Qc]
 simp -dsimp +contextual only [↓evA, eZ, Nat.reduceAdd, Nat.reduceMul, Nat.reduceBEq, Nat.reduceLeDiff, Nat.reduceLT, Tryz.func229, Tryz.f229, a229, QC2, QeQ, Vr]
 try simp only [Xx, eY]
 all_goals rfl
theorem QiB (i) {R1 l} [H1 : EncL Qv R1 l] : LP T (n + 4) 148 2 (frm [(0, .imm 8 R1), (3, .i .i64 i)]) [] =
  VU (run (Q5 l) i) (fun (zr : Bool) => (XE.ret, frm [(2, .b zr)], [])) (fun (zr : Unit) => (XE.exit 0, frm [(0, .imm 8 (l.map Qv))], [])) := by
 obtain ⟨rfl⟩ := H1
 rw [Qm]
 simp -dsimp only [↓evA, evB, Qf, Tryz.func148, Tryz.f148, QKL, QxS, TP, TZ, Nat.reduceAdd, Nat.reduceMul, Nat.reduceBEq, Nat.reduceLeDiff, Nat.reduceLT]
 apply Ql i
 intro i
 simp -dsimp +contextual only [↓evA, eZ, Nat.reduceAdd, Nat.reduceMul, Nat.reduceBEq, Nat.reduceLeDiff, Nat.reduceLT, QfE]
 try simp only [Q5, eY]
 all_goals rfl
theorem Qgo {R1 l} [H1 : EncL Qv R1 l] : CP T (n + 5) 148 [.imm 8 R1] = (XT l).map fun r => .b r := by
 obtain ⟨rfl⟩ := H1
 rw [Qc]
 simp -dsimp +contextual only [↓evA, eZ, Nat.reduceAdd, Nat.reduceMul, Nat.reduceBEq, Nat.reduceLeDiff, Nat.reduceLT, Tryz.func148, Tryz.f148, QKL, QxS, QiB]
 try simp only [XT, eY]
 all_goals rfl
theorem Qju (k) {R1 l R2 f} [H1 : EncL Qv R1 l] [H2 : EncR Qv R2 f] : LP T (n + 1) 129 2 (frm [(0, .imm 8 R1), (3, .ptr 0 0 0), (6, .i .i64 k)]) [some (Ent.box R2)] =
  (run (Zn l f) k).map (fun (zr : Int) => (XE.exit 0, frm [(0, .imm 8 (l.map Qv)), (3, .ptr 0 0 0), (6, .i .i64 zr)], [some (Ent.box (Qv f))])) := by
 rcases H1, H2 with ⟨⟨rfl⟩, ⟨rfl⟩⟩
 rw [Qm]
 simp -dsimp only [↓evA, evB, Qf, Tryz.func129, Tryz.f129, QIB, QzQ, TP, TZ, Nat.reduceAdd, Nat.reduceMul, Nat.reduceBEq, Nat.reduceLeDiff, Nat.reduceLT]
 apply Ql k
 intro k
 simp -dsimp +contextual only [↓evA, eZ, Nat.reduceAdd, Nat.reduceMul, Nat.reduceBEq, Nat.reduceLeDiff, Nat.reduceLT]
 try simp only [Zn, eY]
 try simp only [List.contains_nil, Bool.not_false, Bool.and_true, VC, List.length_append, List.length_cons, List.length_nil, Nat.zero_add, Vz, VK]
 all_goals rfl
theorem QoU {R1 l R2 f} [H1 : EncL Qv R1 l] [H2 : EncR Qv R2 f] : CP T (n + 6) 129 [.imm 8 R1, .agg R2] = (QbV l f).map fun r => .tup [.own 8 (r.1.map Qv), .b r.2] := by
 rcases H1, H2 with ⟨⟨rfl⟩, ⟨rfl⟩⟩
 rw [Qc]
 simp -dsimp +contextual only [↓evA, eZ, Nat.reduceAdd, Nat.reduceMul, Nat.reduceBEq, Nat.reduceLeDiff, Nat.reduceLT, Tryz.func129, Tryz.f129, QIB, QzQ, Qgo, Qju]
 try simp only [QbV, eY]
 try simp only [List.contains_nil, Bool.not_false, Bool.and_true, VC, List.length_append, List.length_cons, List.length_nil, Nat.zero_add, Vz, VK]
 all_goals first | rfl | (simp +contextual only [evN] <;> rfl)
theorem QiO (i) {R1 l} [H1 : EncL Q9 R1 l] : LP T (n + 2) 188 2 (frm [(0, .imm 2 R1), (3, .i .i64 i)]) [] =
  VU (run (JQ l) i) (fun (zr : Bool) => (XE.ret, frm [(2, .b zr)], [])) (fun (zr : Unit) => (XE.exit 0, frm [(0, .imm 2 (l.map Q9))], [])) := by
 obtain ⟨rfl⟩ := H1
 rw [Qm]
 simp -dsimp only [↓evA, evB, Qf, Tryz.func188, Tryz.f188, QLK, QyR, TP, TZ, Nat.reduceAdd, Nat.reduceMul, Nat.reduceBEq, Nat.reduceLeDiff, Nat.reduceLT]
 apply Ql i
 intro i
 simp -dsimp +contextual only [↓evA, eZ, Nat.reduceAdd, Nat.reduceMul, Nat.reduceBEq, Nat.reduceLeDiff, Nat.reduceLT, Vr]
 try simp only [JQ, eY]
 all_goals rfl
theorem Qes {R1 l} [H1 : EncL Q9 R1 l] : CP T (n + 3) 188 [.imm 2 R1] = (Qbd l).map fun r => .b r := by
 obtain ⟨rfl⟩ := H1
 rw [Qc]
 simp -dsimp +contextual only [↓evA, eZ, Nat.reduceAdd, Nat.reduceMul, Nat.reduceBEq, Nat.reduceLeDiff, Nat.reduceLT, Tryz.func188, Tryz.f188, QLK, QyR, QiO]
 try simp only [Qbd, eY]
 all_goals rfl
theorem Qha (a) {R1 l} [H1 : EncL QC R1 l] : LP T (n + 4) 149 2 (frm [(0, .imm 3 R1), (3, .i .i64 a)]) [] =
  VU (run (V8 l) a) (fun (zr : Bool) => (XE.ret, frm [(2, .b zr)], [])) (fun (zr : Unit) => (XE.exit 0, frm [(0, .imm 3 (l.map QC))], [])) := by
 obtain ⟨rfl⟩ := H1
 rw [Qm]
 simp -dsimp only [↓evA, evB, Qf, Tryz.func149, Tryz.f149, QHK, Qyw, TP, TZ, Nat.reduceAdd, Nat.reduceMul, Nat.reduceBEq, Nat.reduceLeDiff, Nat.reduceLT]
 apply Ql a
 intro a
 simp -dsimp +contextual only [↓evA, eZ, Nat.reduceAdd, Nat.reduceMul, Nat.reduceBEq, Nat.reduceLeDiff, Nat.reduceLT, Vr, Qes]
 try simp only [V8, eY]
 all_goals rfl
theorem Qfm {R1 l} [H1 : EncL QC R1 l] : CP T (n + 5) 149 [.imm 3 R1] = (JB l).map fun r => .b r := by
 obtain ⟨rfl⟩ := H1
 rw [Qc]
 simp -dsimp +contextual only [↓evA, eZ, Nat.reduceAdd, Nat.reduceMul, Nat.reduceBEq, Nat.reduceLeDiff, Nat.reduceLT, Tryz.func149, Tryz.f149, QHK, Qyw, Qha]
 try simp only [JB, eY]
 all_goals rfl
theorem Qib (k) {R1 l R2 a} [H1 : EncL QC R1 l] [H2 : EncR QC R2 a] : LP T (n + 1) 130 2 (frm [(0, .imm 3 R1), (3, .ptr 0 0 0), (6, .i .i64 k)]) [some (Ent.box R2)] =
  (run (Je l a) k).map (fun (zr : Int) => (XE.exit 0, frm [(0, .imm 3 (l.map QC)), (3, .ptr 0 0 0), (6, .i .i64 zr)], [some (Ent.box (QC a))])) := by
 rcases H1, H2 with ⟨⟨rfl⟩, ⟨rfl⟩⟩
 rw [Qm]
 simp -dsimp only [↓evA, evB, Qf, Tryz.func130, Tryz.f130, QJF, Qxb, TP, TZ, Nat.reduceAdd, Nat.reduceMul, Nat.reduceBEq, Nat.reduceLeDiff, Nat.reduceLT]
 apply Ql k
 intro k
 simp -dsimp +contextual only [↓evA, eZ, Nat.reduceAdd, Nat.reduceMul, Nat.reduceBEq, Nat.reduceLeDiff, Nat.reduceLT]
 try simp only [Je, eY]
 try simp only [List.contains_nil, Bool.not_false, Bool.and_true, VC, List.length_append, List.length_cons, List.length_nil, Nat.zero_add, Vz, VK]
 all_goals rfl
theorem Qlz {R1 l R2 a} [H1 : EncL QC R1 l] [H2 : EncR QC R2 a] : CP T (n + 6) 130 [.imm 3 R1, .agg R2] = (Z8 l a).map fun r => .tup [.own 3 (r.1.map QG), .b r.2] := by
 rcases H1, H2 with ⟨⟨rfl⟩, ⟨rfl⟩⟩
 rw [Qc]
 simp -dsimp +contextual only [↓evA, eZ, Nat.reduceAdd, Nat.reduceMul, Nat.reduceBEq, Nat.reduceLeDiff, Nat.reduceLT, Tryz.func130, Tryz.f130, QJF, Qxb, Qhf, Qfm, Qib]
 try simp only [Z8, eY]
 try simp only [List.contains_nil, Bool.not_false, Bool.and_true, VC, List.length_append, List.length_cons, List.length_nil, Nat.zero_add, Vz, VK]
 all_goals first | rfl | (simp +contextual only [evN] <;> rfl)
theorem Qf9 (s k i) {R1 l} [H1 : EncL QP R1 l] : LP T (n + 1) 216 3 (frm [(0, .imm 3 R1), (1, .i .i64 s), (5, .i .i64 k), (6, .i .i64 i)]) [] =
  (run (Q3 l s) (k, i)).map (fun (zr : Int) => (XE.exit 0, frm [(0, .imm 3 (l.map QP)), (5, .i .i64 zr)], [])) := by
 obtain ⟨rfl⟩ := H1
 rw [Qm]
 simp -dsimp only [↓evA, evB, Qf, Tryz.func216, Tryz.f216, QMF, Qx9, TP, TZ, Nat.reduceAdd, Nat.reduceMul, Nat.reduceBEq, Nat.reduceLeDiff, Nat.reduceLT]
 apply QH k i
 intro k i
 simp -dsimp +contextual only [↓evA, eZ, Nat.reduceAdd, Nat.reduceMul, Nat.reduceBEq, Nat.reduceLeDiff, Nat.reduceLT]
 try simp only [Q3, eY]
 all_goals rfl
theorem Qh5 (s) {R1 l} [H1 : EncL QP R1 l] : CP T (n + 2) 216 [.imm 3 R1, .i .i64 s] = (ZM l s).map fun r => .i .i64 r := by
 obtain ⟨rfl⟩ := H1
 rw [Qc]
 simp -dsimp +contextual only [↓evA, eZ, Nat.reduceAdd, Nat.reduceMul, Nat.reduceBEq, Nat.reduceLeDiff, Nat.reduceLT, Tryz.func216, Tryz.f216, QMF, Qx9, Qf9]
 try simp only [ZM, eY]
 all_goals rfl
theorem Qi2 (a a2) {R1 l} [H1 : EncL QP R1 l] : LP T (n + 1) 150 7 (frm [(0, .imm 3 R1), (3, .i .i64 a), (4, .i .i64 a2)]) [] =
  VU (run (XO l a) a2) (fun (zr : Bool) => (XE.ret, frm [(2, .b zr)], [])) (fun (zr : Unit) => (XE.exit 2, frm [(0, .imm 3 (l.map QP)), (3, .i .i64 a)], [])) := by
 obtain ⟨rfl⟩ := H1
 rw [Qm]
 simp -dsimp only [↓evA, evB, Qf, Tryz.func150, Tryz.f150, QFJ, Qwc, TP, TZ, Nat.reduceAdd, Nat.reduceMul, Nat.reduceBEq, Nat.reduceLeDiff, Nat.reduceLT]
 apply Ql a2
 intro a2
 simp -dsimp +contextual only [↓evA, eZ, Nat.reduceAdd, Nat.reduceMul, Nat.reduceBEq, Nat.reduceLeDiff, Nat.reduceLT]
 try simp only [XO, eY]
 all_goals rfl
theorem Qi6 (a) {R1 l} [H1 : EncL QP R1 l] : LP T (n + 2) 150 2 (frm [(0, .imm 3 R1), (3, .i .i64 a)]) [] =
  VU (run (VQ l) a) (fun (zr : Bool) => (XE.ret, frm [(2, .b zr)], [])) (fun (zr : Unit) => (XE.exit 0, frm [(0, .imm 3 (l.map QP))], [])) := by
 obtain ⟨rfl⟩ := H1
 rw [Qm]
 simp -dsimp only [↓evA, evB, Qf, Tryz.func150, Tryz.f150, QFJ, Qwc, TP, TZ, Nat.reduceAdd, Nat.reduceMul, Nat.reduceBEq, Nat.reduceLeDiff, Nat.reduceLT]
 apply Ql a
 intro a
 simp -dsimp +contextual only [↓evA, eZ, Nat.reduceAdd, Nat.reduceMul, Nat.reduceBEq, Nat.reduceLeDiff, Nat.reduceLT, Vr, Qi2]
 try simp only [VQ, eY]
 all_goals rfl
theorem Qew {R1 l} [H1 : EncL QP R1 l] : CP T (n + 3) 150 [.imm 3 R1] = (JO l).map fun r => .b r := by
 obtain ⟨rfl⟩ := H1
 rw [Qc]
 simp -dsimp +contextual only [↓evA, eZ, Nat.reduceAdd, Nat.reduceMul, Nat.reduceBEq, Nat.reduceLeDiff, Nat.reduceLT, Tryz.func150, Tryz.f150, QFJ, Qwc, Qi6]
 try simp only [JO, eY]
 all_goals rfl
theorem Qlr (a i) {R1 l} [H1 : EncL QP R1 l] : LP T (n + 1) 112 2 (frm [(0, .imm 3 R1), (1, .i .i64 a), (5, .i .i64 i)]) [] =
  VU (run (Xn l a) i) (fun (zr : Int) => (XE.ret, frm [(4, .i .i64 zr)], [])) (fun (zr : Unit) => (XE.exit 0, frm [], [])) := by
 obtain ⟨rfl⟩ := H1
 rw [Qm]
 simp -dsimp only [↓evA, evB, Qf, Tryz.func112, Tryz.f112, QNM, Qyf, TP, TZ, Nat.reduceAdd, Nat.reduceMul, Nat.reduceBEq, Nat.reduceLeDiff, Nat.reduceLT]
 apply Ql i
 intro i
 simp -dsimp +contextual only [↓evA, eZ, Nat.reduceAdd, Nat.reduceMul, Nat.reduceBEq, Nat.reduceLeDiff, Nat.reduceLT]
 try simp only [Xn, eY]
 all_goals rfl
theorem Qd8 (a) {R1 l} [H1 : EncL QP R1 l] : CP T (n + 2) 112 [.imm 3 R1, .i .i64 a] = (XZ l a).map fun r => .i .i64 r := by
 obtain ⟨rfl⟩ := H1
 rw [Qc]
 simp -dsimp +contextual only [↓evA, eZ, Nat.reduceAdd, Nat.reduceMul, Nat.reduceBEq, Nat.reduceLeDiff, Nat.reduceLT, Tryz.func112, Tryz.f112, QNM, Qyf, Qlr]
 try simp only [XZ, eY]
 all_goals rfl
theorem Qjh (s i) {R1 a R2 o} [H1 : EncR ZR R1 a] [H2 : EncL QP R2 o] : LP T (n + 1) 131 6 (frm [(3, .ptr 0 0 0), (6, .sl 1), (7, .i .i64 s), (8, .i .i64 i)]) [some (Ent.box R1), some (Ent.lst 3 R2)] =
  (run (V6 a s) (o, i)).map (fun (zr : (List Slot)) => (XE.exit 0, frm [(6, .sl 0)], [some (Ent.lst 3 (zr.map QP))])) := by
 rcases H1, H2 with ⟨⟨rfl⟩, ⟨rfl⟩⟩
 rw [Qm]
 simp -dsimp only [↓evA, evB, Qf, Tryz.func131, Tryz.f131, a131, QwK, TP, TZ, Nat.reduceAdd, Nat.reduceMul, Nat.reduceBEq, Nat.reduceLeDiff, Nat.reduceLT]
 apply QH o i
 intro o i
 simp -dsimp +contextual only [↓evA, eZ, Nat.reduceAdd, Nat.reduceMul, Nat.reduceBEq, Nat.reduceLeDiff, Nat.reduceLT]
 try simp only [V6, eY]
 all_goals rfl
theorem QnA {R1 l R2 a} [H1 : EncL QP R1 l] [H2 : EncR ZR R2 a] : CP T (n + 4) 131 [.imm 3 R1, .agg R2] = (QdC l a).map fun r => .tup [.own 3 (r.1.map QP), .b r.2] := by
 rcases H1, H2 with ⟨⟨rfl⟩, ⟨rfl⟩⟩
 rw [Qc]
 simp -dsimp +contextual only [↓evA, eZ, Nat.reduceAdd, Nat.reduceMul, Nat.reduceBEq, Nat.reduceLeDiff, Nat.reduceLT, Tryz.func131, Tryz.f131, a131, QwK, Qh5, Qew, QeQ, Qd8, Qjh]
 try simp only [QdC, eY]
 all_goals first | rfl | (simp +contextual only [evN] <;> rfl)
theorem QnO (a m) : CP T (n + 2) 267 [.i .i64 a, .i .i64 m] = (QdK a m).map fun r => .i .i64 r := by
 rw [Qc]
 simp -dsimp +contextual only [↓evA, eZ, Nat.reduceAdd, Nat.reduceMul, Nat.reduceBEq, Nat.reduceLeDiff, Nat.reduceLT, Tryz.func267, Tryz.f267, QRF, QDC, Vr]
 try simp only [QdK, eY]
 all_goals rfl
theorem Qog (d i) {R1 l} [H1 : EncL Vf R1 l] : LP T (n + 3) 251 3 (frm [(0, .imm 1 R1), (3, .i .i64 d), (4, .i .i64 i)]) [] =
  (run (V5 l) (d, i)).map (fun (zr : Int) => (XE.exit 0, frm [(3, .i .i64 zr)], [])) := by
 obtain ⟨rfl⟩ := H1
 rw [Qm]
 simp -dsimp only [↓evA, evB, Qf, Tryz.func251, Tryz.f251, QMN, QyS, TP, TZ, Nat.reduceAdd, Nat.reduceMul, Nat.reduceBEq, Nat.reduceLeDiff, Nat.reduceLT]
 apply QH d i
 intro d i
 simp -dsimp +contextual only [↓evA, eZ, Nat.reduceAdd, Nat.reduceMul, Nat.reduceBEq, Nat.reduceLeDiff, Nat.reduceLT, QnO]
 try simp only [V5, eY]
 all_goals rfl
end Go.Proofs.YtcdffihcfeajfaaGreat
