import Derived.Test.YtcdffihcfeajfaaGreatEc
namespace Go.Proofs.YtcdffihcfeajfaaGreat
open Go Go.Proofs Go.Proofs.YtcdffihcfeajfaaGreat.Am
set_option maxHeartbeats 4000000
set_option linter.unusedVariables false
set_option linter.unusedSimpArgs false
set_option linter.defProp false
set_option maxRecDepth 100000
variable (n : Nat)
theorem Qo6 (l) {R1 a} [H1 : EncL Qv R1 a] : CP T (n + 1) 85 [.imm 8 R1, .i .i64 l] = (QdF a l).map fun r => .i .i64 r := by
 obtain ⟨rfl⟩ := H1
 rw [Qc]
 simp -dsimp +contextual only [↓evA, eZ, Nat.reduceAdd, Nat.reduceMul, Nat.reduceBEq, Nat.reduceLeDiff, Nat.reduceLT, Tryz.func85, Tryz.f85, a85, n85]
 try simp only [QdF, eY]
 all_goals rfl
theorem QhA (l) {R1 a} [H1 : EncL Vf R1 a] : CP T (n + 1) 34 [.imm 2 R1, .i .i64 l] = (Qcn a l).map fun r => .i .i64 r := by
 obtain ⟨rfl⟩ := H1
 rw [Qc]
 simp -dsimp +contextual only [↓evA, eZ, Nat.reduceAdd, Nat.reduceMul, Nat.reduceBEq, Nat.reduceLeDiff, Nat.reduceLT, Tryz.func34, Tryz.f34, a34, n34]
 try simp only [Qcn, eY]
 all_goals rfl
theorem Qmq (l) {R1 a} [H1 : EncR QH R1 a] : CP T (n + 2) 171 [.agg R1, .i .i64 l] = (Qbm a l).map fun r => .i .i64 r := by
 obtain ⟨rfl⟩ := H1
 rw [Qc]
 simp -dsimp +contextual only [↓evA, eZ, Nat.reduceAdd, Nat.reduceMul, Nat.reduceBEq, Nat.reduceLeDiff, Nat.reduceLT, Tryz.func171, Tryz.f171, QSZ, QAG, QhA]
 try simp only [Qbm, eY]
 all_goals rfl
theorem Qib (l i) {R1 a} [H1 : EncL QH R1 a] : LP T (n + 3) 86 5 (frm [(0, .imm 3 R1), (1, .i .i64 l), (5, .i .i64 i)]) [] =
  VR (run (Jh a) (l, i)) (fun (zr : Int) => (XE.ret, frm [(4, .i .i64 zr)], [])) (fun (zr : Int) => (XE.exit 0, frm [(1, .i .i64 zr)], [])) := by
 obtain ⟨rfl⟩ := H1
 rw [Qn]
 simp -dsimp only [↓evA, evB, Qf, Tryz.func86, Tryz.f86, a86, n86, TP, TZ, Nat.reduceAdd, Nat.reduceMul, Nat.reduceBEq, Nat.reduceLeDiff, Nat.reduceLT]
 apply QD l i
 intro l i
 simp -dsimp +contextual only [↓evA, eZ, Nat.reduceAdd, Nat.reduceMul, Nat.reduceBEq, Nat.reduceLeDiff, Nat.reduceLT, Qmq]
 try simp only [Jh, eY]
 all_goals rfl
theorem QlZ (l) {R1 a} [H1 : EncL QH R1 a] : CP T (n + 4) 86 [.imm 3 R1, .i .i64 l] = (QbW a l).map fun r => .i .i64 r := by
 obtain ⟨rfl⟩ := H1
 rw [Qc]
 simp -dsimp +contextual only [↓evA, eZ, Nat.reduceAdd, Nat.reduceMul, Nat.reduceBEq, Nat.reduceLeDiff, Nat.reduceLT, Tryz.func86, Tryz.f86, a86, n86, Qib]
 try simp only [QbW, eY]
 all_goals rfl
theorem Qoa (l) {R1 a} [H1 : EncL QL R1 a] : CP T (n + 1) 13 [.imm 3 R1, .i .i64 l] = (Qdz a l).map fun r => .i .i64 r := by
 obtain ⟨rfl⟩ := H1
 rw [Qc]
 simp -dsimp +contextual only [↓evA, eZ, Nat.reduceAdd, Nat.reduceMul, Nat.reduceBEq, Nat.reduceLeDiff, Nat.reduceLT, Tryz.func13, Tryz.f13, a13, n13]
 try simp only [Qdz, eY]
 all_goals rfl
theorem QmQ (l) {R1 a} [H1 : EncL Qg R1 a] : CP T (n + 1) 87 [.imm 5 R1, .i .i64 l] = (QcY a l).map fun r => .i .i64 r := by
 obtain ⟨rfl⟩ := H1
 rw [Qc]
 simp -dsimp +contextual only [↓evA, eZ, Nat.reduceAdd, Nat.reduceMul, Nat.reduceBEq, Nat.reduceLeDiff, Nat.reduceLT, Tryz.func87, Tryz.f87, a87, n87]
 try simp only [QcY, eY]
 all_goals rfl
theorem QmW (l) {R1 a} [H1 : EncL QA R1 a] : CP T (n + 1) 88 [.imm 4 R1, .i .i64 l] = (QcF a l).map fun r => .i .i64 r := by
 obtain ⟨rfl⟩ := H1
 rw [Qc]
 simp -dsimp +contextual only [↓evA, eZ, Nat.reduceAdd, Nat.reduceMul, Nat.reduceBEq, Nat.reduceLeDiff, Nat.reduceLT, Tryz.func88, Tryz.f88, a88, n88]
 try simp only [QcF, eY]
 all_goals rfl
theorem QnV (l) {R1 a} [H1 : EncL Q1 R1 a] : CP T (n + 1) 89 [.imm 5 R1, .i .i64 l] = (QdI a l).map fun r => .i .i64 r := by
 obtain ⟨rfl⟩ := H1
 rw [Qc]
 simp -dsimp +contextual only [↓evA, eZ, Nat.reduceAdd, Nat.reduceMul, Nat.reduceBEq, Nat.reduceLeDiff, Nat.reduceLT, Tryz.func89, Tryz.f89, a89, n89]
 try simp only [QdI, eY]
 all_goals rfl
theorem QmS (l) {R1 a} [H1 : EncL QK R1 a] : CP T (n + 1) 90 [.imm 4 R1, .i .i64 l] = (QcL a l).map fun r => .i .i64 r := by
 obtain ⟨rfl⟩ := H1
 rw [Qc]
 simp -dsimp +contextual only [↓evA, eZ, Nat.reduceAdd, Nat.reduceMul, Nat.reduceBEq, Nat.reduceLeDiff, Nat.reduceLT, Tryz.func90, Tryz.f90, a90, n90]
 try simp only [QcL, eY]
 all_goals rfl
theorem Qnt (l) {R1 a} [H1 : EncR QC R1 a] : CP T (n + 5) 22 [.agg R1, .i .i64 l] = (Qdu a l).map fun r => .i .i64 r := by
 obtain ⟨rfl⟩ := H1
 rw [Qc]
 simp -dsimp +contextual (maxSteps := 100000000) only [↓evA, eZ, Nat.reduceAdd, Nat.reduceMul, Nat.reduceBEq, Nat.reduceLeDiff, Nat.reduceLT, Tryz.func22, Tryz.f22, a22, n22, Qo6, QlZ, Qoa, QmQ, QmW, QnV, QmS]
 try simp only [Qdu, eY]
 all_goals rfl
theorem QpM (l) {R1 a} [H1 : EncL Vx R1 a] : CP T (n + 1) 41 [.imm 3 R1, .i .i64 l] = (QeD a l).map fun r => .i .i64 r := by
 obtain ⟨rfl⟩ := H1
 rw [Qc]
 simp -dsimp +contextual only [↓evA, eZ, Nat.reduceAdd, Nat.reduceMul, Nat.reduceBEq, Nat.reduceLeDiff, Nat.reduceLT, Tryz.func41, Tryz.f41, a41, n41]
 try simp only [QeD, eY]
 all_goals rfl
theorem Qnr (l) {R1 a} [H1 : EncR XB R1 a] : CP T (n + 2) 47 [.agg R1, .i .i64 l] = (Qca a l).map fun r => .i .i64 r := by
 obtain ⟨rfl⟩ := H1
 rw [Qc]
 simp -dsimp +contextual only [↓evA, eZ, Nat.reduceAdd, Nat.reduceMul, Nat.reduceBEq, Nat.reduceLeDiff, Nat.reduceLT, Tryz.func47, Tryz.f47, a47, n47, QhA, QpM]
 try simp only [Qca, eY]
 all_goals rfl
theorem Qi6 (l i) {R1 a} [H1 : EncL XB R1 a] : LP T (n + 3) 53 5 (frm [(0, .imm 14 R1), (1, .i .i64 l), (5, .i .i64 i)]) [] =
  VR (run (J0 a) (l, i)) (fun (zr : Int) => (XE.ret, frm [(4, .i .i64 zr)], [])) (fun (zr : Int) => (XE.exit 0, frm [(1, .i .i64 zr)], [])) := by
 obtain ⟨rfl⟩ := H1
 rw [Qn]
 simp -dsimp only [↓evA, evB, Qf, Tryz.func53, Tryz.f53, a53, n53, TP, TZ, Nat.reduceAdd, Nat.reduceMul, Nat.reduceBEq, Nat.reduceLeDiff, Nat.reduceLT]
 apply QD l i
 intro l i
 simp -dsimp +contextual only [↓evA, eZ, Nat.reduceAdd, Nat.reduceMul, Nat.reduceBEq, Nat.reduceLeDiff, Nat.reduceLT, Qnr]
 try simp only [J0, eY]
 all_goals rfl
theorem Qm7 (l) {R1 a} [H1 : EncL XB R1 a] : CP T (n + 4) 53 [.imm 14 R1, .i .i64 l] = (QcH a l).map fun r => .i .i64 r := by
 obtain ⟨rfl⟩ := H1
 rw [Qc]
 simp -dsimp +contextual only [↓evA, eZ, Nat.reduceAdd, Nat.reduceMul, Nat.reduceBEq, Nat.reduceLeDiff, Nat.reduceLT, Tryz.func53, Tryz.f53, a53, n53, Qi6]
 try simp only [QcH, eY]
 all_goals rfl
theorem Qoi {R1 a} [H1 : EncR ZX R1 a] : CP T (n + 1) 133 [.agg R1] = (Qb4 a).map fun r => .agg (ZX r) := by
 obtain ⟨rfl⟩ := H1
 rw [Qc]
 simp -dsimp +contextual only [↓evA, eZ, Nat.reduceAdd, Nat.reduceMul, Nat.reduceBEq, Nat.reduceLeDiff, Nat.reduceLT, Tryz.func133, Tryz.f133, QRZ, QB0]
 try simp only [Qb4, eY]
 all_goals rfl
theorem QiG {R1 a} [H1 : EncR Qv R1 a] : CP T (n + 2) 36 [.agg R1] = (Qb0 a).map fun r => .agg (Qv r) := by
 obtain ⟨rfl⟩ := H1
 rw [Qc]
 simp -dsimp +contextual only [↓evA, eZ, Nat.reduceAdd, Nat.reduceMul, Nat.reduceBEq, Nat.reduceLeDiff, Nat.reduceLT, Tryz.func36, Tryz.f36, a36, n36, Qoi]
 try simp only [Qb0, eY]
 all_goals rfl
theorem QkL (i) {R1 a R2 o} [H1 : EncL Qv R1 a] [H2 : EncL Qv R2 o] : LP T (n + 3) 93 3 (frm [(0, .imm 8 R1), (3, .sl 0), (4, .i .i64 i)]) [some (Ent.lst 8 R2)] =
  (run (ZA a) (o, i)).map (fun (zr : (List Find)) => (XE.exit 0, frm [(3, .sl 0)], [some (Ent.lst 8 (zr.map Qv))])) := by
 rcases H1, H2 with ⟨⟨rfl⟩, ⟨rfl⟩⟩
 rw [Qn]
 simp -dsimp only [↓evA, evB, Qf, Tryz.func93, Tryz.f93, a93, n93, TP, TZ, Nat.reduceAdd, Nat.reduceMul, Nat.reduceBEq, Nat.reduceLeDiff, Nat.reduceLT]
 apply QD o i
 intro o i
 simp -dsimp +contextual only [↓evA, eZ, Nat.reduceAdd, Nat.reduceMul, Nat.reduceBEq, Nat.reduceLeDiff, Nat.reduceLT, QiG]
 try simp only [ZA, eY]
 all_goals rfl
theorem QnB {R1 a} [H1 : EncL Qv R1 a] : CP T (n + 4) 93 [.imm 8 R1] = (Qdw a).map fun r => .own 8 (r.map Qv) := by
 obtain ⟨rfl⟩ := H1
 rw [Qc]
 simp -dsimp +contextual only [↓evA, eZ, Nat.reduceAdd, Nat.reduceMul, Nat.reduceBEq, Nat.reduceLeDiff, Nat.reduceLT, Tryz.func93, Tryz.f93, a93, n93, QkL]
 try simp only [Qdw, eY]
 all_goals first | rfl | (simp +contextual only [evN] <;> rfl)
theorem QpN {R1 a} [H1 : EncR Vf R1 a] : CP T (n + 1) 134 [.agg R1] = (Qdg a).map fun r => .agg (Vf r) := by
 obtain ⟨rfl⟩ := H1
 rw [Qc]
 simp -dsimp +contextual only [↓evA, eZ, Nat.reduceAdd, Nat.reduceMul, Nat.reduceBEq, Nat.reduceLeDiff, Nat.reduceLT, Tryz.func134, Tryz.f134, QUj, QCA]
 try simp only [Qdg, eY]
 all_goals rfl
theorem Qkx (i) {R1 a R2 o} [H1 : EncL Vf R1 a] [H2 : EncL Vf R2 o] : LP T (n + 2) 37 3 (frm [(0, .imm 2 R1), (3, .sl 0), (4, .i .i64 i)]) [some (Ent.lst 2 R2)] =
  (run (ZG a) (o, i)).map (fun (zr : (List Mark)) => (XE.exit 0, frm [(3, .sl 0)], [some (Ent.lst 2 (zr.map Vf))])) := by
 rcases H1, H2 with ⟨⟨rfl⟩, ⟨rfl⟩⟩
 rw [Qn]
 simp -dsimp only [↓evA, evB, Qf, Tryz.func37, Tryz.f37, a37, n37, TP, TZ, Nat.reduceAdd, Nat.reduceMul, Nat.reduceBEq, Nat.reduceLeDiff, Nat.reduceLT]
 apply QD o i
 intro o i
 simp -dsimp +contextual only [↓evA, eZ, Nat.reduceAdd, Nat.reduceMul, Nat.reduceBEq, Nat.reduceLeDiff, Nat.reduceLT, QpN]
 try simp only [ZG, eY]
 all_goals rfl
theorem QhG {R1 a} [H1 : EncL Vf R1 a] : CP T (n + 3) 37 [.imm 2 R1] = (Qch a).map fun r => .own 2 (r.map Vf) := by
 obtain ⟨rfl⟩ := H1
 rw [Qc]
 simp -dsimp +contextual only [↓evA, eZ, Nat.reduceAdd, Nat.reduceMul, Nat.reduceBEq, Nat.reduceLeDiff, Nat.reduceLT, Tryz.func37, Tryz.f37, a37, n37, Qkx]
 try simp only [Qch, eY]
 all_goals first | rfl | (simp +contextual only [evN] <;> rfl)
theorem Qmt {R1 a} [H1 : EncR QH R1 a] : CP T (n + 4) 172 [.agg R1] = (Qbn a).map fun r => .agg (Qw r) := by
 obtain ⟨rfl⟩ := H1
 rw [Qc]
 simp -dsimp +contextual only [↓evA, eZ, Nat.reduceAdd, Nat.reduceMul, Nat.reduceBEq, Nat.reduceLeDiff, Nat.reduceLT, Tryz.func172, Tryz.f172, QQj, QDl, QhG]
 try simp only [Qbn, eY]
 all_goals rfl
theorem Qiu (i) {R1 a R2 o} [H1 : EncL QH R1 a] [H2 : EncL Qw R2 o] : LP T (n + 5) 94 3 (frm [(0, .imm 3 R1), (3, .sl 0), (4, .i .i64 i)]) [some (Ent.lst 3 R2)] =
  (run (Jk a) (o, i)).map (fun (zr : (List Secret)) => (XE.exit 0, frm [(3, .sl 0)], [some (Ent.lst 3 (zr.map Qw))])) := by
 rcases H1, H2 with ⟨⟨rfl⟩, ⟨rfl⟩⟩
 rw [Qn]
 simp -dsimp only [↓evA, evB, Qf, Tryz.func94, Tryz.f94, a94, n94, TP, TZ, Nat.reduceAdd, Nat.reduceMul, Nat.reduceBEq, Nat.reduceLeDiff, Nat.reduceLT]
 apply QD o i
 intro o i
 simp -dsimp +contextual only [↓evA, eZ, Nat.reduceAdd, Nat.reduceMul, Nat.reduceBEq, Nat.reduceLeDiff, Nat.reduceLT, Qmt]
 try simp only [Jk, eY]
 all_goals rfl
theorem QlL {R1 a} [H1 : EncL QH R1 a] : CP T (n + 6) 94 [.imm 3 R1] = (QbD a).map fun r => .own 3 (r.map Qw) := by
 obtain ⟨rfl⟩ := H1
 rw [Qc]
 simp -dsimp +contextual only [↓evA, eZ, Nat.reduceAdd, Nat.reduceMul, Nat.reduceBEq, Nat.reduceLeDiff, Nat.reduceLT, Tryz.func94, Tryz.f94, a94, n94, Qiu]
 try simp only [QbD, eY]
 all_goals first | rfl | (simp +contextual only [evN] <;> rfl)
theorem QpJ {R1 a} [H1 : EncR QL R1 a] : CP T (n + 1) 62 [.agg R1] = (Qdm a).map fun r => .agg (QL r) := by
 obtain ⟨rfl⟩ := H1
 rw [Qc]
 simp -dsimp +contextual only [↓evA, eZ, Nat.reduceAdd, Nat.reduceMul, Nat.reduceBEq, Nat.reduceLeDiff, Nat.reduceLT, Tryz.func62, Tryz.f62, a62, n62]
 try simp only [Qdm, eY]
 all_goals rfl
theorem QjF (i) {R1 a R2 o} [H1 : EncL QL R1 a] [H2 : EncL QL R2 o] : LP T (n + 2) 15 3 (frm [(0, .imm 3 R1), (3, .sl 0), (4, .i .i64 i)]) [some (Ent.lst 3 R2)] =
  (run (Zy a) (o, i)).map (fun (zr : (List Slot)) => (XE.exit 0, frm [(3, .sl 0)], [some (Ent.lst 3 (zr.map QL))])) := by
 rcases H1, H2 with ⟨⟨rfl⟩, ⟨rfl⟩⟩
 rw [Qn]
 simp -dsimp only [↓evA, evB, Qf, Tryz.func15, Tryz.f15, a15, n15, TP, TZ, Nat.reduceAdd, Nat.reduceMul, Nat.reduceBEq, Nat.reduceLeDiff, Nat.reduceLT]
 apply QD o i
 intro o i
 simp -dsimp +contextual only [↓evA, eZ, Nat.reduceAdd, Nat.reduceMul, Nat.reduceBEq, Nat.reduceLeDiff, Nat.reduceLT, QpJ]
 try simp only [Zy, eY]
 all_goals rfl
theorem QnM {R1 a} [H1 : EncL QL R1 a] : CP T (n + 3) 15 [.imm 3 R1] = (Qdx a).map fun r => .own 3 (r.map QL) := by
 obtain ⟨rfl⟩ := H1
 rw [Qc]
 simp -dsimp +contextual only [↓evA, eZ, Nat.reduceAdd, Nat.reduceMul, Nat.reduceBEq, Nat.reduceLeDiff, Nat.reduceLT, Tryz.func15, Tryz.f15, a15, n15, QjF]
 try simp only [Qdx, eY]
 all_goals first | rfl | (simp +contextual only [evN] <;> rfl)
theorem QoC {R1 a} [H1 : EncR Qg R1 a] : CP T (n + 1) 173 [.agg R1] = (Qb8 a).map fun r => .agg (Qg r) := by
 obtain ⟨rfl⟩ := H1
 rw [Qc]
 simp -dsimp +contextual only [↓evA, eZ, Nat.reduceAdd, Nat.reduceMul, Nat.reduceBEq, Nat.reduceLeDiff, Nat.reduceLT, Tryz.func173, Tryz.f173, QRd, QDq]
 try simp only [Qb8, eY]
 all_goals rfl
theorem Qja (i) {R1 a R2 o} [H1 : EncL Qg R1 a] [H2 : EncL Qg R2 o] : LP T (n + 2) 95 3 (frm [(0, .imm 5 R1), (3, .sl 0), (4, .i .i64 i)]) [some (Ent.lst 5 R2)] =
  (run (JT a) (o, i)).map (fun (zr : (List Claim)) => (XE.exit 0, frm [(3, .sl 0)], [some (Ent.lst 5 (zr.map Qg))])) := by
 rcases H1, H2 with ⟨⟨rfl⟩, ⟨rfl⟩⟩
 rw [Qn]
 simp -dsimp only [↓evA, evB, Qf, Tryz.func95, Tryz.f95, a95, n95, TP, TZ, Nat.reduceAdd, Nat.reduceMul, Nat.reduceBEq, Nat.reduceLeDiff, Nat.reduceLT]
 apply QD o i
 intro o i
 simp -dsimp +contextual only [↓evA, eZ, Nat.reduceAdd, Nat.reduceMul, Nat.reduceBEq, Nat.reduceLeDiff, Nat.reduceLT, QoC]
 try simp only [JT, eY]
 all_goals rfl
theorem QmP {R1 a} [H1 : EncL Qg R1 a] : CP T (n + 3) 95 [.imm 5 R1] = (Qcz a).map fun r => .own 5 (r.map Qg) := by
 obtain ⟨rfl⟩ := H1
 rw [Qc]
 simp -dsimp +contextual only [↓evA, eZ, Nat.reduceAdd, Nat.reduceMul, Nat.reduceBEq, Nat.reduceLeDiff, Nat.reduceLT, Tryz.func95, Tryz.f95, a95, n95, Qja]
 try simp only [Qcz, eY]
 all_goals first | rfl | (simp +contextual only [evN] <;> rfl)
theorem Qnp {R1 a} [H1 : EncR QA R1 a] : CP T (n + 1) 174 [.agg R1] = (Qcb a).map fun r => .agg (QA r) := by
 obtain ⟨rfl⟩ := H1
 rw [Qc]
 simp -dsimp +contextual only [↓evA, eZ, Nat.reduceAdd, Nat.reduceMul, Nat.reduceBEq, Nat.reduceLeDiff, Nat.reduceLT, Tryz.func174, Tryz.f174, QSx, QDG]
 try simp only [Qcb, eY]
 all_goals rfl
theorem QiY (i) {R1 a R2 o} [H1 : EncL QA R1 a] [H2 : EncL QA R2 o] : LP T (n + 2) 96 3 (frm [(0, .imm 4 R1), (3, .sl 0), (4, .i .i64 i)]) [some (Ent.lst 4 R2)] =
  (run (J5 a) (o, i)).map (fun (zr : (List Trial)) => (XE.exit 0, frm [(3, .sl 0)], [some (Ent.lst 4 (zr.map QA))])) := by
 rcases H1, H2 with ⟨⟨rfl⟩, ⟨rfl⟩⟩
 rw [Qn]
 simp -dsimp only [↓evA, evB, Qf, Tryz.func96, Tryz.f96, a96, n96, TP, TZ, Nat.reduceAdd, Nat.reduceMul, Nat.reduceBEq, Nat.reduceLeDiff, Nat.reduceLT]
 apply QD o i
 intro o i
 simp -dsimp +contextual only [↓evA, eZ, Nat.reduceAdd, Nat.reduceMul, Nat.reduceBEq, Nat.reduceLeDiff, Nat.reduceLT, Qnp]
 try simp only [J5, eY]
 all_goals rfl
theorem QmI {R1 a} [H1 : EncL QA R1 a] : CP T (n + 3) 96 [.imm 4 R1] = (QcW a).map fun r => .own 4 (r.map QA) := by
 obtain ⟨rfl⟩ := H1
 rw [Qc]
 simp -dsimp +contextual only [↓evA, eZ, Nat.reduceAdd, Nat.reduceMul, Nat.reduceBEq, Nat.reduceLeDiff, Nat.reduceLT, Tryz.func96, Tryz.f96, a96, n96, QiY]
 try simp only [QcW, eY]
 all_goals first | rfl | (simp +contextual only [evN] <;> rfl)
theorem Qpx {R1 a} [H1 : EncR Q1 R1 a] : CP T (n + 1) 175 [.agg R1] = (Qde a).map fun r => .agg (Q1 r) := by
 obtain ⟨rfl⟩ := H1
 rw [Qc]
 simp -dsimp +contextual only [↓evA, eZ, Nat.reduceAdd, Nat.reduceMul, Nat.reduceBEq, Nat.reduceLeDiff, Nat.reduceLT, Tryz.func175, Tryz.f175, QTZ, QDp]
 try simp only [Qde, eY]
 all_goals rfl
theorem Qkt (i) {R1 a R2 o} [H1 : EncL Q1 R1 a] [H2 : EncL Q1 R2 o] : LP T (n + 2) 97 3 (frm [(0, .imm 5 R1), (3, .sl 0), (4, .i .i64 i)]) [some (Ent.lst 5 R2)] =
  (run (ZH a) (o, i)).map (fun (zr : (List Hand)) => (XE.exit 0, frm [(3, .sl 0)], [some (Ent.lst 5 (zr.map Q1))])) := by
 rcases H1, H2 with ⟨⟨rfl⟩, ⟨rfl⟩⟩
 rw [Qn]
 simp -dsimp only [↓evA, evB, Qf, Tryz.func97, Tryz.f97, a97, n97, TP, TZ, Nat.reduceAdd, Nat.reduceMul, Nat.reduceBEq, Nat.reduceLeDiff, Nat.reduceLT]
 apply QD o i
 intro o i
 simp -dsimp +contextual only [↓evA, eZ, Nat.reduceAdd, Nat.reduceMul, Nat.reduceBEq, Nat.reduceLeDiff, Nat.reduceLT, Qpx]
 try simp only [ZH, eY]
 all_goals rfl
theorem Qok {R1 a} [H1 : EncL Q1 R1 a] : CP T (n + 3) 97 [.imm 5 R1] = (QdE a).map fun r => .own 5 (r.map Q1) := by
 obtain ⟨rfl⟩ := H1
 rw [Qc]
 simp -dsimp +contextual only [↓evA, eZ, Nat.reduceAdd, Nat.reduceMul, Nat.reduceBEq, Nat.reduceLeDiff, Nat.reduceLT, Tryz.func97, Tryz.f97, a97, n97, Qkt]
 try simp only [QdE, eY]
 all_goals first | rfl | (simp +contextual only [evN] <;> rfl)
theorem QoK {R1 a} [H1 : EncR QK R1 a] : CP T (n + 1) 176 [.agg R1] = (Qcp a).map fun r => .agg (QK r) := by
 obtain ⟨rfl⟩ := H1
 rw [Qc]
 simp -dsimp +contextual only [↓evA, eZ, Nat.reduceAdd, Nat.reduceMul, Nat.reduceBEq, Nat.reduceLeDiff, Nat.reduceLT, Tryz.func176, Tryz.f176, QU8, QAF]
 try simp only [Qcp, eY]
 all_goals rfl
theorem QiR (i) {R1 a R2 o} [H1 : EncL QK R1 a] [H2 : EncL QK R2 o] : LP T (n + 2) 98 3 (frm [(0, .imm 4 R1), (3, .sl 0), (4, .i .i64 i)]) [some (Ent.lst 4 R2)] =
  (run (J7 a) (o, i)).map (fun (zr : (List Entry)) => (XE.exit 0, frm [(3, .sl 0)], [some (Ent.lst 4 (zr.map QK))])) := by
 rcases H1, H2 with ⟨⟨rfl⟩, ⟨rfl⟩⟩
 rw [Qn]
 simp -dsimp only [↓evA, evB, Qf, Tryz.func98, Tryz.f98, a98, n98, TP, TZ, Nat.reduceAdd, Nat.reduceMul, Nat.reduceBEq, Nat.reduceLeDiff, Nat.reduceLT]
 apply QD o i
 intro o i
 simp -dsimp +contextual only [↓evA, eZ, Nat.reduceAdd, Nat.reduceMul, Nat.reduceBEq, Nat.reduceLeDiff, Nat.reduceLT, QoK]
 try simp only [J7, eY]
 all_goals rfl
theorem QmH {R1 a} [H1 : EncL QK R1 a] : CP T (n + 3) 98 [.imm 4 R1] = (QcA a).map fun r => .own 4 (r.map QK) := by
 obtain ⟨rfl⟩ := H1
 rw [Qc]
 simp -dsimp +contextual only [↓evA, eZ, Nat.reduceAdd, Nat.reduceMul, Nat.reduceBEq, Nat.reduceLeDiff, Nat.reduceLT, Tryz.func98, Tryz.f98, a98, n98, QiR]
 try simp only [QcA, eY]
 all_goals first | rfl | (simp +contextual only [evN] <;> rfl)
theorem QoM {R1 a} [H1 : EncR QC R1 a] : CP T (n + 7) 24 [.agg R1] = (JI a).map fun r => .agg (Vz r) := by
 obtain ⟨rfl⟩ := H1
 rw [Qc]
 simp -dsimp +contextual (maxSteps := 100000000) only [↓evA, eZ, Nat.reduceAdd, Nat.reduceMul, Nat.reduceBEq, Nat.reduceLeDiff, Nat.reduceLT, Tryz.func24, Tryz.f24, a24, n24, QnB, QlL, QnM, QmP, QmI, Qok, QmH]
 try simp only [JI, eY]
 all_goals rfl
theorem QrC {R1 a} [H1 : EncR Vx R1 a] : CP T (n + 1) 142 [.agg R1] = (Qeb a).map fun r => .agg (Vx r) := by
 obtain ⟨rfl⟩ := H1
 rw [Qc]
 simp -dsimp +contextual only [↓evA, eZ, Nat.reduceAdd, Nat.reduceMul, Nat.reduceBEq, Nat.reduceLeDiff, Nat.reduceLT, Tryz.func142, Tryz.f142, QRO, QDM]
 try simp only [Qeb, eY]
 all_goals rfl
theorem QlN (i) {R1 a R2 o} [H1 : EncL Vx R1 a] [H2 : EncL Vx R2 o] : LP T (n + 2) 43 3 (frm [(0, .imm 3 R1), (3, .sl 0), (4, .i .i64 i)]) [some (Ent.lst 3 R2)] =
  (run (Qaa a) (o, i)).map (fun (zr : (List Bid)) => (XE.exit 0, frm [(3, .sl 0)], [some (Ent.lst 3 (zr.map Vx))])) := by
 rcases H1, H2 with ⟨⟨rfl⟩, ⟨rfl⟩⟩
 rw [Qn]
 simp -dsimp only [↓evA, evB, Qf, Tryz.func43, Tryz.f43, a43, n43, TP, TZ, Nat.reduceAdd, Nat.reduceMul, Nat.reduceBEq, Nat.reduceLeDiff, Nat.reduceLT]
 apply QD o i
 intro o i
 simp -dsimp +contextual only [↓evA, eZ, Nat.reduceAdd, Nat.reduceMul, Nat.reduceBEq, Nat.reduceLeDiff, Nat.reduceLT, QrC]
 try simp only [Qaa, eY]
 all_goals rfl
theorem Qpp {R1 a} [H1 : EncL Vx R1 a] : CP T (n + 3) 43 [.imm 3 R1] = (Qev a).map fun r => .own 3 (r.map Vx) := by
 obtain ⟨rfl⟩ := H1
 rw [Qc]
 simp -dsimp +contextual only [↓evA, eZ, Nat.reduceAdd, Nat.reduceMul, Nat.reduceBEq, Nat.reduceLeDiff, Nat.reduceLT, Tryz.func43, Tryz.f43, a43, n43, QlN]
 try simp only [Qev, eY]
 all_goals first | rfl | (simp +contextual only [evN] <;> rfl)
theorem Qoz {R1 a} [H1 : EncR XB R1 a] : CP T (n + 4) 49 [.agg R1] = (Qb2 a).map fun r => .agg (Qc6 r) := by
 obtain ⟨rfl⟩ := H1
 rw [Qc]
 simp -dsimp +contextual only [↓evA, eZ, Nat.reduceAdd, Nat.reduceMul, Nat.reduceBEq, Nat.reduceLeDiff, Nat.reduceLT, Tryz.func49, Tryz.f49, a49, n49, QiG, QhG, Qpp]
 try simp only [Qb2, eY]
 all_goals rfl
theorem Qi8 (i) {R1 a R2 o} [H1 : EncL XB R1 a] [H2 : EncL Qc6 R2 o] : LP T (n + 5) 55 3 (frm [(0, .imm 14 R1), (3, .sl 0), (4, .i .i64 i)]) [some (Ent.lst 14 R2)] =
  (run (J4 a) (o, i)).map (fun (zr : (List Event)) => (XE.exit 0, frm [(3, .sl 0)], [some (Ent.lst 14 (zr.map Qc6))])) := by
 rcases H1, H2 with ⟨⟨rfl⟩, ⟨rfl⟩⟩
 rw [Qn]
 simp -dsimp only [↓evA, evB, Qf, Tryz.func55, Tryz.f55, a55, n55, TP, TZ, Nat.reduceAdd, Nat.reduceMul, Nat.reduceBEq, Nat.reduceLeDiff, Nat.reduceLT]
 apply QD o i
 intro o i
 simp -dsimp +contextual only [↓evA, eZ, Nat.reduceAdd, Nat.reduceMul, Nat.reduceBEq, Nat.reduceLeDiff, Nat.reduceLT, Qoz]
 try simp only [J4, eY]
 all_goals rfl
theorem QmN {R1 a} [H1 : EncL XB R1 a] : CP T (n + 6) 55 [.imm 14 R1] = (JL a).map fun r => .own 14 (r.map Qc6) := by
 obtain ⟨rfl⟩ := H1
 rw [Qc]
 simp -dsimp +contextual only [↓evA, eZ, Nat.reduceAdd, Nat.reduceMul, Nat.reduceBEq, Nat.reduceLeDiff, Nat.reduceLT, Tryz.func55, Tryz.f55, a55, n55, Qi8]
 try simp only [JL, eY]
 all_goals first | rfl | (simp +contextual only [evN] <;> rfl)
theorem QjJ (i) {R1 l R2 o} [H1 : EncL QH R1 l] [H2 : EncL Qw R2 o] : LP T (n + 1) 147 3 (frm [(0, .imm 3 R1), (3, .sl 0), (4, .i .i64 i)]) [some (Ent.lst 3 R2)] =
  (run (JD l) (o, i)).map (fun (zr : (List Secret)) => (XE.exit 0, frm [(3, .sl 0)], [some (Ent.lst 3 (zr.map Qw))])) := by
 rcases H1, H2 with ⟨⟨rfl⟩, ⟨rfl⟩⟩
 rw [Qn]
 simp -dsimp only [↓evA, evB, Qf, Tryz.func147, Tryz.f147, QPJ, QwP, TP, TZ, Nat.reduceAdd, Nat.reduceMul, Nat.reduceBEq, Nat.reduceLeDiff, Nat.reduceLT]
 apply QD o i
 intro o i
 simp -dsimp +contextual only [↓evA, eZ, Nat.reduceAdd, Nat.reduceMul, Nat.reduceBEq, Nat.reduceLeDiff, Nat.reduceLT]
 try simp only [JD, eY]
 all_goals rfl
theorem Qhk {R1 l} [H1 : EncL QH R1 l] : CP T (n + 2) 147 [.imm 3 R1] = (V8 l).map fun r => .own 3 (r.map Qw) := by
 obtain ⟨rfl⟩ := H1
 rw [Qc]
 simp -dsimp +contextual only [↓evA, eZ, Nat.reduceAdd, Nat.reduceMul, Nat.reduceBEq, Nat.reduceLeDiff, Nat.reduceLT, Tryz.func147, Tryz.f147, QPJ, QwP, QjJ]
 try simp only [V8, eY]
 all_goals first | rfl | (simp +contextual only [evN] <;> rfl)
theorem VM {R1 a} [H1 : EncR QC R1 a] : CP T (n + 3) 59 [.agg R1] = (Vp a).map fun r => .agg (Vz r) := by
 obtain ⟨rfl⟩ := H1
 rw [Qc]
 simp -dsimp +contextual (maxSteps := 100000000) only [↓evA, eZ, Nat.reduceAdd, Nat.reduceMul, Nat.reduceBEq, Nat.reduceLeDiff, Nat.reduceLT, Tryz.func59, Tryz.f59, a59, n59, Qhk]
 try simp only [Vp, eY]
 all_goals rfl
theorem Vr (a l m) : CP T (n + 1) 91 [.i .i64 a, .i .i64 l, .i .i64 m] = (Qe a l m).map fun r => .b r := by
 rw [Qc]
 simp -dsimp +contextual only [↓evA, eZ, Nat.reduceAdd, Nat.reduceMul, Nat.reduceBEq, Nat.reduceLeDiff, Nat.reduceLT, Tryz.func91, Tryz.f91, a91, n91]
 try simp only [Qe, eY]
 all_goals rfl
theorem Qe1 {R1 a} [H1 : EncR ZX R1 a] : CP T (n + 2) 208 [.agg R1] = (Xt a).map fun r => .b r := by
 obtain ⟨rfl⟩ := H1
 rw [Qc]
 simp -dsimp +contextual only [↓evA, eZ, Nat.reduceAdd, Nat.reduceMul, Nat.reduceBEq, Nat.reduceLeDiff, Nat.reduceLT, Tryz.func208, Tryz.f208, QR2, QBg, Vr]
 try simp only [Xt, eY]
 all_goals rfl
theorem QfL {R1 f} [H1 : EncR Qv R1 f] : CP T (n + 3) 229 [.agg R1] = (Xz f).map fun r => .b r := by
 obtain ⟨rfl⟩ := H1
 rw [Qc]
 simp -dsimp +contextual only [↓evA, eZ, Nat.reduceAdd, Nat.reduceMul, Nat.reduceBEq, Nat.reduceLeDiff, Nat.reduceLT, Tryz.func229, Tryz.f229, a229, QAt, Qe1, Vr]
 try simp only [Xz, eY]
 all_goals rfl
theorem Qjq (i) {R1 l} [H1 : EncL Qv R1 l] : LP T (n + 4) 148 2 (frm [(0, .imm 8 R1), (3, .i .i64 i)]) [] =
  VR (run (Q6 l) i) (fun (zr : Bool) => (XE.ret, frm [(2, .b zr)], [])) (fun (zr : Unit) => (XE.exit 0, frm [(0, .imm 8 (l.map Qv))], [])) := by
 obtain ⟨rfl⟩ := H1
 rw [Qn]
 simp -dsimp only [↓evA, evB, Qf, Tryz.func148, Tryz.f148, QMK, QyY, TP, TZ, Nat.reduceAdd, Nat.reduceMul, Nat.reduceBEq, Nat.reduceLeDiff, Nat.reduceLT]
 apply Ql i
 intro i
 simp -dsimp +contextual only [↓evA, eZ, Nat.reduceAdd, Nat.reduceMul, Nat.reduceBEq, Nat.reduceLeDiff, Nat.reduceLT, QfL]
 try simp only [Q6, eY]
 all_goals rfl
theorem QgE {R1 l} [H1 : EncL Qv R1 l] : CP T (n + 5) 148 [.imm 8 R1] = (XZ l).map fun r => .b r := by
 obtain ⟨rfl⟩ := H1
 rw [Qc]
 simp -dsimp +contextual only [↓evA, eZ, Nat.reduceAdd, Nat.reduceMul, Nat.reduceBEq, Nat.reduceLeDiff, Nat.reduceLT, Tryz.func148, Tryz.f148, QMK, QyY, Qjq]
 try simp only [XZ, eY]
 all_goals rfl
theorem Qkn (k) {R1 l R2 f} [H1 : EncL Qv R1 l] [H2 : EncR Qv R2 f] : LP T (n + 1) 129 2 (frm [(0, .imm 8 R1), (3, .ptr 0 0 0), (6, .i .i64 k)]) [some (Ent.box R2)] =
  (run (ZB l f) k).map (fun (zr : Int) => (XE.exit 0, frm [(0, .imm 8 (l.map Qv)), (3, .ptr 0 0 0), (6, .i .i64 zr)], [some (Ent.box (Qv f))])) := by
 rcases H1, H2 with ⟨⟨rfl⟩, ⟨rfl⟩⟩
 rw [Qn]
 simp -dsimp only [↓evA, evB, Qf, Tryz.func129, Tryz.f129, QKP, QzY, TP, TZ, Nat.reduceAdd, Nat.reduceMul, Nat.reduceBEq, Nat.reduceLeDiff, Nat.reduceLT]
 apply Ql k
 intro k
 simp -dsimp +contextual only [↓evA, eZ, Nat.reduceAdd, Nat.reduceMul, Nat.reduceBEq, Nat.reduceLeDiff, Nat.reduceLT]
 try simp only [ZB, eY]
 try simp only [List.contains_nil, Bool.not_false, Bool.and_true, VF, List.length_append, List.length_cons, List.length_nil, Nat.zero_add, VC, VL]
 all_goals rfl
theorem Qo3 {R1 l R2 f} [H1 : EncL Qv R1 l] [H2 : EncR Qv R2 f] : CP T (n + 6) 129 [.imm 8 R1, .agg R2] = (Qcl l f).map fun r => .tup [.own 8 (r.1.map Qv), .b r.2] := by
 rcases H1, H2 with ⟨⟨rfl⟩, ⟨rfl⟩⟩
 rw [Qc]
 simp -dsimp +contextual only [↓evA, eZ, Nat.reduceAdd, Nat.reduceMul, Nat.reduceBEq, Nat.reduceLeDiff, Nat.reduceLT, Tryz.func129, Tryz.f129, QKP, QzY, QgE, Qkn]
 try simp only [Qcl, eY]
 try simp only [List.contains_nil, Bool.not_false, Bool.and_true, VF, List.length_append, List.length_cons, List.length_nil, Nat.zero_add, VC, VL]
 all_goals first | rfl | (simp +contextual only [evN] <;> rfl)
theorem Qi4 (i) {R1 l} [H1 : EncL Vf R1 l] : LP T (n + 2) 188 2 (frm [(0, .imm 2 R1), (3, .i .i64 i)]) [] =
  VR (run (Ze l) i) (fun (zr : Bool) => (XE.ret, frm [(2, .b zr)], [])) (fun (zr : Unit) => (XE.exit 0, frm [(0, .imm 2 (l.map Vf))], [])) := by
 obtain ⟨rfl⟩ := H1
 rw [Qn]
 simp -dsimp only [↓evA, evB, Qf, Tryz.func188, Tryz.f188, QNi, QyQ, TP, TZ, Nat.reduceAdd, Nat.reduceMul, Nat.reduceBEq, Nat.reduceLeDiff, Nat.reduceLT]
 apply Ql i
 intro i
 simp -dsimp +contextual only [↓evA, eZ, Nat.reduceAdd, Nat.reduceMul, Nat.reduceBEq, Nat.reduceLeDiff, Nat.reduceLT, Vr]
 try simp only [Ze, eY]
 all_goals rfl
theorem QeJ {R1 l} [H1 : EncL Vf R1 l] : CP T (n + 3) 188 [.imm 2 R1] = (Qbk l).map fun r => .b r := by
 obtain ⟨rfl⟩ := H1
 rw [Qc]
 simp -dsimp +contextual only [↓evA, eZ, Nat.reduceAdd, Nat.reduceMul, Nat.reduceBEq, Nat.reduceLeDiff, Nat.reduceLT, Tryz.func188, Tryz.f188, QNi, QyQ, Qi4]
 try simp only [Qbk, eY]
 all_goals rfl
theorem Qhg (a) {R1 l} [H1 : EncL QH R1 l] : LP T (n + 4) 149 2 (frm [(0, .imm 3 R1), (3, .i .i64 a)]) [] =
  VR (run (V9 l) a) (fun (zr : Bool) => (XE.ret, frm [(2, .b zr)], [])) (fun (zr : Unit) => (XE.exit 0, frm [(0, .imm 3 (l.map QH))], [])) := by
 obtain ⟨rfl⟩ := H1
 rw [Qn]
 simp -dsimp only [↓evA, evB, Qf, Tryz.func149, Tryz.f149, QIv, Qz8, TP, TZ, Nat.reduceAdd, Nat.reduceMul, Nat.reduceBEq, Nat.reduceLeDiff, Nat.reduceLT]
 apply Ql a
 intro a
 simp -dsimp +contextual only [↓evA, eZ, Nat.reduceAdd, Nat.reduceMul, Nat.reduceBEq, Nat.reduceLeDiff, Nat.reduceLT, Vr, QeJ]
 try simp only [V9, eY]
 all_goals rfl
theorem Qfk {R1 l} [H1 : EncL QH R1 l] : CP T (n + 5) 149 [.imm 3 R1] = (JF l).map fun r => .b r := by
 obtain ⟨rfl⟩ := H1
 rw [Qc]
 simp -dsimp +contextual only [↓evA, eZ, Nat.reduceAdd, Nat.reduceMul, Nat.reduceBEq, Nat.reduceLeDiff, Nat.reduceLT, Tryz.func149, Tryz.f149, QIv, Qz8, Qhg]
 try simp only [JF, eY]
 all_goals rfl
theorem Qio (k) {R1 l R2 a} [H1 : EncL QH R1 l] [H2 : EncR QH R2 a] : LP T (n + 1) 130 2 (frm [(0, .imm 3 R1), (3, .ptr 0 0 0), (6, .i .i64 k)]) [some (Ent.box R2)] =
  (run (Jr l a) k).map (fun (zr : Int) => (XE.exit 0, frm [(0, .imm 3 (l.map QH)), (3, .ptr 0 0 0), (6, .i .i64 zr)], [some (Ent.box (QH a))])) := by
 rcases H1, H2 with ⟨⟨rfl⟩, ⟨rfl⟩⟩
 rw [Qn]
 simp -dsimp only [↓evA, evB, Qf, Tryz.func130, Tryz.f130, QK7, Qxu, TP, TZ, Nat.reduceAdd, Nat.reduceMul, Nat.reduceBEq, Nat.reduceLeDiff, Nat.reduceLT]
 apply Ql k
 intro k
 simp -dsimp +contextual only [↓evA, eZ, Nat.reduceAdd, Nat.reduceMul, Nat.reduceBEq, Nat.reduceLeDiff, Nat.reduceLT]
 try simp only [Jr, eY]
 try simp only [List.contains_nil, Bool.not_false, Bool.and_true, VF, List.length_append, List.length_cons, List.length_nil, Nat.zero_add, VC, VL]
 all_goals rfl
theorem Ql1 {R1 l R2 a} [H1 : EncL QH R1 l] [H2 : EncR QH R2 a] : CP T (n + 6) 130 [.imm 3 R1, .agg R2] = (Qao l a).map fun r => .tup [.own 3 (r.1.map Qw), .b r.2] := by
 rcases H1, H2 with ⟨⟨rfl⟩, ⟨rfl⟩⟩
 rw [Qc]
 simp -dsimp +contextual only [↓evA, eZ, Nat.reduceAdd, Nat.reduceMul, Nat.reduceBEq, Nat.reduceLeDiff, Nat.reduceLT, Tryz.func130, Tryz.f130, QK7, Qxu, Qhk, Qfk, Qio]
 try simp only [Qao, eY]
 try simp only [List.contains_nil, Bool.not_false, Bool.and_true, VF, List.length_append, List.length_cons, List.length_nil, Nat.zero_add, VC, VL]
 all_goals first | rfl | (simp +contextual only [evN] <;> rfl)
theorem Qgo (s k i) {R1 l} [H1 : EncL QL R1 l] : LP T (n + 1) 216 3 (frm [(0, .imm 3 R1), (1, .i .i64 s), (5, .i .i64 k), (6, .i .i64 i)]) [] =
  (run (Q3 l s) (k, i)).map (fun (zr : Int) => (XE.exit 0, frm [(0, .imm 3 (l.map QL)), (5, .i .i64 zr)], [])) := by
 obtain ⟨rfl⟩ := H1
 rw [Qn]
 simp -dsimp only [↓evA, evB, Qf, Tryz.func216, Tryz.f216, QKu, Qxb, TP, TZ, Nat.reduceAdd, Nat.reduceMul, Nat.reduceBEq, Nat.reduceLeDiff, Nat.reduceLT]
 apply QD k i
 intro k i
 simp -dsimp +contextual only [↓evA, eZ, Nat.reduceAdd, Nat.reduceMul, Nat.reduceBEq, Nat.reduceLeDiff, Nat.reduceLT]
 try simp only [Q3, eY]
 all_goals rfl
theorem Qis (s) {R1 l} [H1 : EncL QL R1 l] : CP T (n + 2) 216 [.imm 3 R1, .i .i64 s] = (ZQ l s).map fun r => .i .i64 r := by
 obtain ⟨rfl⟩ := H1
 rw [Qc]
 simp -dsimp +contextual only [↓evA, eZ, Nat.reduceAdd, Nat.reduceMul, Nat.reduceBEq, Nat.reduceLeDiff, Nat.reduceLT, Tryz.func216, Tryz.f216, QKu, Qxb, Qgo]
 try simp only [ZQ, eY]
 all_goals rfl
theorem Qi1 (a a2) {R1 l} [H1 : EncL QL R1 l] : LP T (n + 1) 150 7 (frm [(0, .imm 3 R1), (3, .i .i64 a), (4, .i .i64 a2)]) [] =
  VR (run (XS l a) a2) (fun (zr : Bool) => (XE.ret, frm [(2, .b zr)], [])) (fun (zr : Unit) => (XE.exit 2, frm [(0, .imm 3 (l.map QL)), (3, .i .i64 a)], [])) := by
 obtain ⟨rfl⟩ := H1
 rw [Qn]
 simp -dsimp only [↓evA, evB, Qf, Tryz.func150, Tryz.f150, QGU, Qwp, TP, TZ, Nat.reduceAdd, Nat.reduceMul, Nat.reduceBEq, Nat.reduceLeDiff, Nat.reduceLT]
 apply Ql a2
 intro a2
 simp -dsimp +contextual only [↓evA, eZ, Nat.reduceAdd, Nat.reduceMul, Nat.reduceBEq, Nat.reduceLeDiff, Nat.reduceLT]
 try simp only [XS, eY]
 all_goals rfl
theorem Qjt (a) {R1 l} [H1 : EncL QL R1 l] : LP T (n + 2) 150 2 (frm [(0, .imm 3 R1), (3, .i .i64 a)]) [] =
  VR (run (VP l) a) (fun (zr : Bool) => (XE.ret, frm [(2, .b zr)], [])) (fun (zr : Unit) => (XE.exit 0, frm [(0, .imm 3 (l.map QL))], [])) := by
 obtain ⟨rfl⟩ := H1
 rw [Qn]
 simp -dsimp only [↓evA, evB, Qf, Tryz.func150, Tryz.f150, QGU, Qwp, TP, TZ, Nat.reduceAdd, Nat.reduceMul, Nat.reduceBEq, Nat.reduceLeDiff, Nat.reduceLT]
 apply Ql a
 intro a
 simp -dsimp +contextual only [↓evA, eZ, Nat.reduceAdd, Nat.reduceMul, Nat.reduceBEq, Nat.reduceLeDiff, Nat.reduceLT, Vr, Qi1]
 try simp only [VP, eY]
 all_goals rfl
theorem QeG {R1 l} [H1 : EncL QL R1 l] : CP T (n + 3) 150 [.imm 3 R1] = (JR l).map fun r => .b r := by
 obtain ⟨rfl⟩ := H1
 rw [Qc]
 simp -dsimp +contextual only [↓evA, eZ, Nat.reduceAdd, Nat.reduceMul, Nat.reduceBEq, Nat.reduceLeDiff, Nat.reduceLT, Tryz.func150, Tryz.f150, QGU, Qwp, Qjt]
 try simp only [JR, eY]
 all_goals rfl
theorem Qlp (a i) {R1 l} [H1 : EncL QL R1 l] : LP T (n + 1) 112 2 (frm [(0, .imm 3 R1), (1, .i .i64 a), (5, .i .i64 i)]) [] =
  VR (run (Xr l a) i) (fun (zr : Int) => (XE.ret, frm [(4, .i .i64 zr)], [])) (fun (zr : Unit) => (XE.exit 0, frm [], [])) := by
 obtain ⟨rfl⟩ := H1
 rw [Qn]
 simp -dsimp only [↓evA, evB, Qf, Tryz.func112, Tryz.f112, QJF, Qyb, TP, TZ, Nat.reduceAdd, Nat.reduceMul, Nat.reduceBEq, Nat.reduceLeDiff, Nat.reduceLT]
 apply Ql i
 intro i
 simp -dsimp +contextual only [↓evA, eZ, Nat.reduceAdd, Nat.reduceMul, Nat.reduceBEq, Nat.reduceLeDiff, Nat.reduceLT]
 try simp only [Xr, eY]
 all_goals rfl
theorem Qeh (a) {R1 l} [H1 : EncL QL R1 l] : CP T (n + 2) 112 [.imm 3 R1, .i .i64 a] = (X7 l a).map fun r => .i .i64 r := by
 obtain ⟨rfl⟩ := H1
 rw [Qc]
 simp -dsimp +contextual only [↓evA, eZ, Nat.reduceAdd, Nat.reduceMul, Nat.reduceBEq, Nat.reduceLeDiff, Nat.reduceLT, Tryz.func112, Tryz.f112, QJF, Qyb, Qlp]
 try simp only [X7, eY]
 all_goals rfl
end Go.Proofs.YtcdffihcfeajfaaGreat
