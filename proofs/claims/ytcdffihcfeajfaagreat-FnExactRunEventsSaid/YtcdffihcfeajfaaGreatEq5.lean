import Derived.Test.YtcdffihcfeajfaaGreatEq4
namespace Go.Proofs.YtcdffihcfeajfaaGreat
open Go Go.Proofs Go.Proofs.YtcdffihcfeajfaaGreat.Am
set_option maxHeartbeats 4000000
set_option linter.unusedVariables false
set_option linter.unusedSimpArgs false
set_option linter.defProp false
set_option maxRecDepth 100000
variable (n : Nat)
theorem Zm (a b a2 b2) {R1 d} [H1 : EncL Vx R1 d] : LP T (n + 2) 276 9 (frm [(0, .sl 0), (1, .i .i64 a), (2, .clo 262 []), (6, .i .i64 b), (7, .i .i64 a2), (8, .i .i64 b2)]) [some (Ent.lst 3 R1)] =
  (run (Vt d a b a2 b2) ()).map (fun (zr : Unit) => (XE.exit 4, frm [(0, .sl 0), (1, .i .i64 a), (2, .clo 262 []), (6, .i .i64 b), (7, .i .i64 a2)], [some (Ent.lst 3 (d.map Vx))])) := by
 obtain ⟨rfl⟩ := H1
 rw [Qn]
 simp -dsimp only [↓evA, evB, Qf, Tryz.func276, Tryz.f276, QA9, QtY, TP, TZ, Nat.reduceAdd, Nat.reduceMul, Nat.reduceBEq, Nat.reduceLeDiff, Nat.reduceLT]
 apply Qyq
 simp -dsimp +contextual only [↓evA, eZ, Nat.reduceAdd, Nat.reduceMul, Nat.reduceBEq, Nat.reduceLeDiff, Nat.reduceLT, srt]
 try simp only [Vt, eY]
 all_goals rfl
theorem Zl (a b) {R1 d} [H1 : EncL Vx R1 d] : LP T (n + 3) 276 7 (frm [(0, .sl 0), (1, .i .i64 a), (2, .clo 262 []), (6, .i .i64 b)]) [some (Ent.lst 3 R1)] =
  (run (QI d a) b).map (fun (zr : Unit) => (XE.exit 2, frm [(0, .sl 0)], [some (Ent.lst 3 (d.map Vx))])) := by
 obtain ⟨rfl⟩ := H1
 rw [Qn]
 simp -dsimp only [↓evA, evB, Qf, Tryz.func276, Tryz.f276, QA9, QtY, TP, TZ, Nat.reduceAdd, Nat.reduceMul, Nat.reduceBEq, Nat.reduceLeDiff, Nat.reduceLT]
 apply Ql b
 intro b
 simp -dsimp +contextual only [↓evA, eZ, Nat.reduceAdd, Nat.reduceMul, Nat.reduceBEq, Nat.reduceLeDiff, Nat.reduceLT, srt, Zm]
 try simp only [QI, eY]
 all_goals rfl
theorem Z3 (a) {R1 d} [H1 : EncL Vx R1 d] : CA T (n + 8) 276 [some (Ent.lst 3 R1)] [.sl 0, .i .i64 a, .clo 262 []] = (Va d a).map fun r => (.tup [], [some (Ent.lst 3 (r.map Vx))]) := by
 obtain ⟨rfl⟩ := H1
 rw [Qft]
 simp -dsimp +contextual only [↓evA, eZ, Nat.reduceAdd, Nat.reduceMul, Nat.reduceBEq, Nat.reduceLeDiff, Nat.reduceLT, Tryz.func276, Tryz.f276, QA9, QtY, srt, VI, Zp, Zl]
 try simp only [Va, eY]
 all_goals rfl
theorem ZW {R1 a} [H1 : EncL Vx R1 a] : CA T (n + 9) 261 [some (Ent.lst 3 R1)] [.sl 0, .clo 262 []] = (Q8 a).map fun r => (.tup [], [some (Ent.lst 3 (r.map Vx))]) := by
 obtain ⟨rfl⟩ := H1
 rw [Qft]
 simp -dsimp +contextual only [↓evA, eZ, Nat.reduceAdd, Nat.reduceMul, Nat.reduceBEq, Nat.reduceLeDiff, Nat.reduceLT, Tryz.func261, Tryz.f261, QRD, QCj, srt, Z3]
 try simp only [Q8, eY]
 all_goals rfl
theorem QjH {R1 l} [H1 : EncL Vx R1 l] : CP T (n + 10) 226 [.imm 3 R1] = (QaT l).map fun r => .own 3 (r.map Vx) := by
 obtain ⟨rfl⟩ := H1
 rw [Qc]
 simp -dsimp +contextual only [↓evA, eZ, Nat.reduceAdd, Nat.reduceMul, Nat.reduceBEq, Nat.reduceLeDiff, Nat.reduceLT, Tryz.func226, Tryz.f226, QT0, QDi, srt, Qji, ZW]
 try simp only [QaT, eY]
 all_goals first | rfl | (simp +contextual only [evN] <;> rfl)
theorem QpB {R1 l} [H1 : EncL Vx R1 l] : CP T (n + 11) 143 [.imm 3 R1] = (Qey l).map fun r => .tup [.i .i64 r.1, .i .i64 r.2] := by
 obtain ⟨rfl⟩ := H1
 rw [Qc]
 simp -dsimp +contextual only [↓evA, eZ, Nat.reduceAdd, Nat.reduceMul, Nat.reduceBEq, Nat.reduceLeDiff, Nat.reduceLT, Tryz.func143, Tryz.f143, QVs, QB6, Qod, QjH]
 try simp only [Qey, eY]
 all_goals rfl
theorem Qmx (k) : CP T (n + 1) 271 [.i .i64 k] = (Qel k).map fun r => .i .i64 r := by
 rw [Qc]
 simp -dsimp +contextual only [↓evA, eZ, Nat.reduceAdd, Nat.reduceMul, Nat.reduceBEq, Nat.reduceLeDiff, Nat.reduceLT, Tryz.func271, Tryz.f271, QPY, QBa]
 try simp only [Qel, eY]
 all_goals rfl
theorem QoB {R1 f} [H1 : EncR Qv R1 f] : CP T (n + 4) 250 [.agg R1] = (QeT f).map fun r => .i .i64 r := by
 obtain ⟨rfl⟩ := H1
 rw [Qc]
 simp -dsimp +contextual only [↓evA, eZ, Nat.reduceAdd, Nat.reduceMul, Nat.reduceBEq, Nat.reduceLeDiff, Nat.reduceLT, Tryz.func250, Tryz.f250, QSb, QBD, QfR, Qmx]
 try simp only [QeT, eY]
 all_goals rfl
theorem QrK (a) {R1 f} [H1 : EncR Qv R1 f] : CP T (n + 5) 214 [.agg R1, .i .i64 a] = (Qfd f a).map fun r => .b r := by
 obtain ⟨rfl⟩ := H1
 rw [Qc]
 simp -dsimp +contextual only [↓evA, eZ, Nat.reduceAdd, Nat.reduceMul, Nat.reduceBEq, Nat.reduceLeDiff, Nat.reduceLT, Tryz.func214, Tryz.f214, QQH, QDL, QfR, QoB]
 try simp only [Qfd, eY]
 all_goals rfl
theorem QmJ {R1 c R2 c2} [H1 : EncR Qg R1 c] [H2 : EncR ZX R2 c2] : CP T (n + 1) 215 [.agg R1, .iptr 5 [R2] 0 0] = (Qen c c2).map fun r => .b r := by
 rcases H1, H2 with ⟨⟨rfl⟩, ⟨rfl⟩⟩
 rw [Qc]
 simp -dsimp +contextual only [↓evA, eZ, Nat.reduceAdd, Nat.reduceMul, Nat.reduceBEq, Nat.reduceLeDiff, Nat.reduceLT, Tryz.func215, Tryz.f215, QR1, QDu]
 try simp only [Qen, eY]
 all_goals rfl
theorem QaQ (a a2) {R1 s R2 f} [H1 : EncL Qg R1 s] [H2 : EncR ZX R2 f] : LP T (n + 2) 190 2 (frm [(0, .imm 5 R1), (1, .clo 215 [.iptr 5 [R2] 0 0]), (7, .i .i64 a), (8, .i .i64 a2)]) [] =
  VR (run (QG s f a) a2) (fun (zr : Int) => (XE.ret, frm [(4, .i .i64 zr)], [])) (fun (zr : Unit) => (XE.exit 0, frm [], [])) := by
 rcases H1, H2 with ⟨⟨rfl⟩, ⟨rfl⟩⟩
 rw [Qn]
 simp -dsimp only [↓evA, evB, Qf, Tryz.func190, Tryz.f190, QvG, QqH, TP, TZ, Nat.reduceAdd, Nat.reduceMul, Nat.reduceBEq, Nat.reduceLeDiff, Nat.reduceLT]
 apply Ql a2
 intro a2
 simp -dsimp +contextual only [↓evA, eZ, Nat.reduceAdd, Nat.reduceMul, Nat.reduceBEq, Nat.reduceLeDiff, Nat.reduceLT, QmJ]
 try simp only [QG, eY]
 all_goals rfl
theorem Qbw {R1 s R2 c} [H1 : EncL Qg R1 s] [H2 : EncR ZX R2 c] : CP T (n + 3) 190 [.imm 5 R1, .clo 215 [.iptr 5 [R2] 0 0]] = (Vu s c).map fun r => .i .i64 r := by
 rcases H1, H2 with ⟨⟨rfl⟩, ⟨rfl⟩⟩
 rw [Qc]
 simp -dsimp +contextual only [↓evA, eZ, Nat.reduceAdd, Nat.reduceMul, Nat.reduceBEq, Nat.reduceLeDiff, Nat.reduceLT, Tryz.func190, Tryz.f190, QvG, QqH, QaQ]
 try simp only [Vu, eY]
 all_goals rfl
theorem QaF {R1 s R2 c} [H1 : EncL Qg R1 s] [H2 : EncR ZX R2 c] : CP T (n + 4) 199 [.imm 5 R1, .clo 215 [.iptr 5 [R2] 0 0]] = (QX s c).map fun r => .b r := by
 rcases H1, H2 with ⟨⟨rfl⟩, ⟨rfl⟩⟩
 rw [Qc]
 simp -dsimp +contextual only [↓evA, eZ, Nat.reduceAdd, Nat.reduceMul, Nat.reduceBEq, Nat.reduceLeDiff, Nat.reduceLT, Tryz.func199, Tryz.f199, QOt, Qw3, Qbw]
 try simp only [QX, eY]
 all_goals rfl
theorem QiH (a) {R1 f R2 l} [H1 : EncR Qv R1 f] [H2 : EncL Qg R2 l] : CP T (n + 6) 128 [.agg R1, .imm 5 R2, .i .i64 a] = (Qdh f l a).map fun r => .i .i64 r := by
 rcases H1, H2 with ⟨⟨rfl⟩, ⟨rfl⟩⟩
 rw [Qc]
 simp -dsimp +contextual only [↓evA, eZ, Nat.reduceAdd, Nat.reduceMul, Nat.reduceBEq, Nat.reduceLeDiff, Nat.reduceLT, Tryz.func128, Tryz.f128, QSL, QB5, QeY, QrK, QaF]
 try simp only [Qdh, eY]
 all_goals rfl
theorem Qhh (c a3 a5 a6) {R1 a R2 a2 R3 a4} [H1 : EncL Vg R1 a] [H2 : EncL Vg R2 a2] [H3 : EncL Vg R3 a4] : LP T (n + 2) 227 6 (frm [(0, .i .i64 c), (1, .imm 1 R1), (5, .sl 0), (6, .i .i64 a3), (25, .imm 1 R3), (26, .i .i64 a5), (27, .i .i64 a6)]) [some (Ent.lst 1 R2)] =
  VR (run (XI c a a2 a4 a5) (a3, a6)) (fun (zr : (List Int)) => (XE.ret, frm [(4, .sl 0)], [some (Ent.lst 1 (zr.map Vg))])) (fun (zr : Int) => (XE.exit 0, frm [(0, .i .i64 c), (1, .imm 1 (a.map Vg)), (5, .sl 0), (6, .i .i64 zr)], [some (Ent.lst 1 (a2.map Vg))])) := by
 rcases H1, H2, H3 with ⟨⟨rfl⟩, ⟨rfl⟩, ⟨rfl⟩⟩
 rw [Qn]
 simp -dsimp only [↓evA, evB, Qf, Tryz.func227, Tryz.f227, QAO, Qug, TP, TZ, Nat.reduceAdd, Nat.reduceMul, Nat.reduceBEq, Nat.reduceLeDiff, Nat.reduceLT]
 apply QD a3 a6
 intro a3 a6
 simp -dsimp +contextual only [↓evA, eZ, Nat.reduceAdd, Nat.reduceMul, Nat.reduceBEq, Nat.reduceLeDiff, Nat.reduceLT, QY]
 try simp only [XI, eY]
 all_goals rfl
theorem QgV (c a2 a3 a5 a6) {R1 a R2 a4} [H1 : EncL Vg R1 a] [H2 : EncL Vg R2 a4] : LP T (n + 1) 227 16 (frm [(0, .i .i64 c), (5, .sl 0), (6, .i .i64 a2), (9, .i .i64 a3), (43, .imm 1 R2), (44, .i .i64 a5), (45, .i .i64 a6)]) [some (Ent.lst 1 R1)] =
  (run (VU c a2 a4 a5) (a, a3, a6)).map (fun (zr : (List Int) × Int) => (XE.exit 2, frm [(5, .sl 0), (9, .i .i64 zr.2)], [some (Ent.lst 1 (zr.1.map Vg))])) := by
 rcases H1, H2 with ⟨⟨rfl⟩, ⟨rfl⟩⟩
 rw [Qn]
 simp -dsimp only [↓evA, evB, Qf, Tryz.func227, Tryz.f227, QAO, Qug, TP, TZ, Nat.reduceAdd, Nat.reduceMul, Nat.reduceBEq, Nat.reduceLeDiff, Nat.reduceLT]
 apply JG a a3 a6
 intro a a3 a6
 simp -dsimp +contextual only [↓evA, eZ, Nat.reduceAdd, Nat.reduceMul, Nat.reduceBEq, Nat.reduceLeDiff, Nat.reduceLT]
 try simp only [VU, eY]
 all_goals rfl
theorem QgU (a2 a3) {R1 a} [H1 : EncL Vg R1 a] : LP T (n + 1) 227 23 (frm [(5, .sl 0), (9, .i .i64 a2), (13, .i .i64 a3)]) [some (Ent.lst 1 R1)] =
  (run Xw (a, a2, a3)).map (fun (zr : (List Int)) => (XE.exit 4, frm [(5, .sl 0)], [some (Ent.lst 1 (zr.map Vg))])) := by
 obtain ⟨rfl⟩ := H1
 rw [Qn]
 simp -dsimp only [↓evA, evB, Qf, Tryz.func227, Tryz.f227, QAO, Qug, TP, TZ, Nat.reduceAdd, Nat.reduceMul, Nat.reduceBEq, Nat.reduceLeDiff, Nat.reduceLT]
 apply JG a a2 a3
 intro a a2 a3
 simp -dsimp +contextual only [↓evA, eZ, Nat.reduceAdd, Nat.reduceMul, Nat.reduceBEq, Nat.reduceLeDiff, Nat.reduceLT]
 try simp only [Xw, eY]
 all_goals rfl
theorem QjS (c) {R1 a} [H1 : EncL Vg R1 a] : CP T (n + 3) 227 [.i .i64 c, .imm 1 R1] = (QaX c a).map fun r => .own 1 (r.map Vg) := by
 obtain ⟨rfl⟩ := H1
 rw [Qc]
 simp -dsimp +contextual only [↓evA, eZ, Nat.reduceAdd, Nat.reduceMul, Nat.reduceBEq, Nat.reduceLeDiff, Nat.reduceLT, Tryz.func227, Tryz.f227, QAO, Qug, QY, Qhh, QgV, QgU]
 try simp only [QaX, eY]
 all_goals first | rfl | (simp +contextual only [evN] <;> rfl)
theorem QoY (p f) : CP T (n + 4) 144 [.i .i64 p, .i .i64 f] = (QdG p f).map fun r => .own 2 (r.map Qje) := by
 rw [Qc]
 simp -dsimp +contextual only [↓evA, eZ, Nat.reduceAdd, Nat.reduceMul, Nat.reduceBEq, Nat.reduceLeDiff, Nat.reduceLT, Tryz.func144, Tryz.f144, QQ7, QBS, QY, QjS]
 try simp only [QdG, eY]
 all_goals first | rfl | (simp +contextual only [evN] <;> rfl)
theorem Qm1 (a2) {R1 a R2 a3} [H1 : EncR QC R1 a] [H2 : EncL Vx R2 a3] : CP T (n + 13) 44 [.agg R1, .i .i64 a2, .imm 3 R2] = (QcO a a2 a3).map fun r => .tup [.agg (Vz r.1), .b r.2] := by
 rcases H1, H2 with ⟨⟨rfl⟩, ⟨rfl⟩⟩
 rw [Qc]
 simp -dsimp +contextual (maxSteps := 100000000) only [↓evA, eZ, Nat.reduceAdd, Nat.reduceMul, Nat.reduceBEq, Nat.reduceLeDiff, Nat.reduceLT, Tryz.func44, Tryz.f44, a44, n44, srt, QfN, QpB, QiH, Q5, QfP, QgD, QoY, Qac]
 try simp only [QcO, eY]
 all_goals rfl
theorem Qlz {R1 a R2 o R3 d} [H1 : EncR QC R1 a] [H2 : EncR QC R2 o] [H3 : EncL c_b R3 d] : CM T (n + 12) 100 [some (Ent.lst 1 R3)] [.agg R1, .agg R2, .sl 0] = (Qak a o d).map fun r => .tup [.agg (Vz r.1), .b r.2] := by
 rcases H1, H2, H3 with ⟨⟨rfl⟩, ⟨rfl⟩, ⟨rfl⟩⟩
 rw [Qqc]
 simp -dsimp +contextual (maxSteps := 100000000) only [↓evA, eZ, Nat.reduceAdd, Nat.reduceMul, Nat.reduceBEq, Nat.reduceLeDiff, Nat.reduceLT, Tryz.func100, Tryz.f100, QEO, Qv7, QaE, Z9, Q5]
 try simp only [Qak, eY]
 all_goals rfl
theorem QlE (a2) {R1 a} [H1 : EncR QC R1 a] : CP T (n + 13) 33 [.agg R1, .i .i64 a2] = (QbQ a a2).map fun r => .tup [.agg (Vz r.1), .b r.2] := by
 obtain ⟨rfl⟩ := H1
 rw [Qc]
 simp -dsimp +contextual (maxSteps := 100000000) only [↓evA, eZ, Nat.reduceAdd, Nat.reduceMul, Nat.reduceBEq, Nat.reduceLeDiff, Nat.reduceLT, Tryz.func33, Tryz.f33, a33, n33, srt, QfN, Q5, QiH, QfP, Qac, Qlz]
 try simp only [QbQ, eY]
 all_goals rfl
theorem Qm5 (a2) {R1 a} [H1 : EncR QC R1 a] : CP T (n + 13) 25 [.agg R1, .i .i64 a2] = (QcM a a2).map fun r => .tup [.agg (Vz r.1), .b r.2] := by
 obtain ⟨rfl⟩ := H1
 rw [Qc]
 simp -dsimp +contextual (maxSteps := 100000000) only [↓evA, eZ, Nat.reduceAdd, Nat.reduceMul, Nat.reduceBEq, Nat.reduceLeDiff, Nat.reduceLT, Tryz.func25, Tryz.f25, a25, n25, srt, Q5, QY, Qac]
 try simp only [QcM, eY]
 all_goals rfl
theorem QjQ {R1 a R2 a2} [H1 : EncR QC R1 a] [H2 : EncR XB R2 a2] : CP T (n + 14) 50 [.agg R1, .agg R2] = (Qbg a a2).map fun r => .tup [.agg (Vz r.1), .b r.2] := by
 rcases H1, H2 with ⟨⟨rfl⟩, ⟨rfl⟩⟩
 rw [Qc]
 simp -dsimp +contextual (maxSteps := 100000000) only [↓evA, eZ, Nat.reduceAdd, Nat.reduceMul, Nat.reduceBEq, Nat.reduceLeDiff, Nat.reduceLT, Tryz.func50, Tryz.f50, a50, n50, Qms, QlQ, QkW, Qli, Qm1, QlE, Qm5, Q5]
 try simp only [Qbg, eY]
 all_goals rfl
theorem Qiz (oxNo oxNow a2 a3) {R1 oxFinds R2 oxSecrets R3 oxSlots R4 oxClaims R5 oxTrials R6 oxChain R7 oxBook R8 a} [H1 : EncL Qv R1 oxFinds] [H2 : EncL Qw R2 oxSecrets] [H3 : EncL QL R3 oxSlots] [H4 : EncL Qg R4 oxClaims] [H5 : EncL QA R5 oxTrials] [H6 : EncL Q1 R6 oxChain] [H7 : EncL QK R7 oxBook] [H8 : EncL XB R8 a] : LP T (n + 15) 56 3 (frm [(4, .ptr 0 0 0), (5, .ptr 1 0 0), (10, .imm 14 R8), (11, .i .i64 a2), (12, .i .i64 a3)]) [some (Ent.box [.i .i64 0, .nil, .nil, .nil, .nil, .nil, .nil, .nil, .i .i64 0]), some (Ent.box [.i .i64 oxNo, .sl 2, .sl 3, .sl 4, .sl 5, .sl 6, .sl 7, .sl 8, .i .i64 oxNow]), some (Ent.lst 8 R1), some (Ent.lst 3 R2), some (Ent.lst 3 R3), some (Ent.lst 5 R4), some (Ent.lst 4 R5), some (Ent.lst 5 R6), some (Ent.lst 4 R7)] =
  (run (VX a a2) ((⟨oxNo, oxFinds, oxSecrets, oxSlots, oxClaims, oxTrials, oxChain, oxBook, oxNow⟩ : House), a3)).map (fun (zr : House) => (XE.exit 0, frm [(4, .ptr 0 0 0), (5, .ptr 1 0 0)], [some (Ent.box [.i .i64 0, .nil, .nil, .nil, .nil, .nil, .nil, .nil, .i .i64 0]), some (Ent.box [.i .i64 zr.No, .sl 2, .sl 3, .sl 4, .sl 5, .sl 6, .sl 7, .sl 8, .i .i64 zr.Now]), some (Ent.lst 8 (zr.Finds.map Qv)), some (Ent.lst 3 (zr.Secrets.map Qw)), some (Ent.lst 3 (zr.Slots.map QL)), some (Ent.lst 5 (zr.Claims.map Qg)), some (Ent.lst 4 (zr.Trials.map QA)), some (Ent.lst 5 (zr.Chain.map Q1)), some (Ent.lst 4 (zr.Book.map QK))])) := by
 rcases H1, H2, H3, H4, H5, H6, H7, H8 with ⟨⟨rfl⟩, ⟨rfl⟩, ⟨rfl⟩, ⟨rfl⟩, ⟨rfl⟩, ⟨rfl⟩, ⟨rfl⟩, ⟨rfl⟩⟩
 rw [Qn]
 simp -dsimp only [↓evA, evB, Qf, Tryz.func56, Tryz.f56, a56, n56, TP, TZ, Nat.reduceAdd, Nat.reduceMul, Nat.reduceBEq, Nat.reduceLeDiff, Nat.reduceLT]
 refine run_map (fun (zs : House × Int) => (frm [(4, .ptr 0 0 0), (5, .ptr 1 0 0), (10, .imm 14 (a.map XB)), (11, .i .i64 a2), (12, .i .i64 zs.2)], [some (Ent.box [.i .i64 0, .nil, .nil, .nil, .nil, .nil, .nil, .nil, .i .i64 0]), some (Ent.box [.i .i64 zs.1.No, .sl 2, .sl 3, .sl 4, .sl 5, .sl 6, .sl 7, .sl 8, .i .i64 zs.1.Now]), some (Ent.lst 8 (zs.1.Finds.map Qv)), some (Ent.lst 3 (zs.1.Secrets.map Qw)), some (Ent.lst 3 (zs.1.Slots.map QL)), some (Ent.lst 5 (zs.1.Claims.map Qg)), some (Ent.lst 4 (zs.1.Trials.map QA)), some (Ent.lst 5 (zs.1.Chain.map Q1)), some (Ent.lst 4 (zs.1.Book.map QK))])) _ ?_ ((⟨oxNo, oxFinds, oxSecrets, oxSlots, oxClaims, oxTrials, oxChain, oxBook, oxNow⟩ : House), a3)
 rintro ⟨o, a3⟩
 simp -dsimp +contextual (maxSteps := 100000000) only [↓evA, eZ, Nat.reduceAdd, Nat.reduceMul, Nat.reduceBEq, Nat.reduceLeDiff, Nat.reduceLT, QjQ]
 try simp only [VX, eY]
 all_goals rfl
theorem Qly {R1 a R2 l} [H1 : EncR QC R1 a] [H2 : EncL XB R2 l] : CP T (n + 16) 56 [.agg R1, .imm 14 R2] = (Qae a l).map fun r => .agg (Vz r) := by
 rcases H1, H2 with ⟨⟨rfl⟩, ⟨rfl⟩⟩
 rw [Qc]
 simp -dsimp +contextual (maxSteps := 100000000) only [↓evA, eZ, Nat.reduceAdd, Nat.reduceMul, Nat.reduceBEq, Nat.reduceLeDiff, Nat.reduceLT, Tryz.func56, Tryz.f56, a56, n56, Q5, Qiz]
 try simp only [Qae, eY]
 all_goals rfl
theorem QoX {R1 a R2 b} [H1 : EncR ZX R1 a] [H2 : EncR ZX R2 b] : CP T (n + 1) 228 [.agg R1, .agg R2] = (QdL a b).map fun r => .b r := by
 rcases H1, H2 with ⟨⟨rfl⟩, ⟨rfl⟩⟩
 rw [Qc]
 simp -dsimp +contextual only [↓evA, eZ, Nat.reduceAdd, Nat.reduceMul, Nat.reduceBEq, Nat.reduceLeDiff, Nat.reduceLT, Tryz.func228, Tryz.f228, a228, QDt]
 try simp only [QdL, eY]
 all_goals rfl
theorem QiF {R1 a R2 b} [H1 : EncR Qv R1 a] [H2 : EncR Qv R2 b] : CP T (n + 2) 146 [.agg R1, .agg R2] = (Qdj a b).map fun r => .b r := by
 rcases H1, H2 with ⟨⟨rfl⟩, ⟨rfl⟩⟩
 rw [Qc]
 simp -dsimp +contextual only [↓evA, eZ, Nat.reduceAdd, Nat.reduceMul, Nat.reduceBEq, Nat.reduceLeDiff, Nat.reduceLT, Tryz.func146, Tryz.f146, QVm, QDw, QoX]
 try simp only [Qdj, eY]
 all_goals rfl
theorem QkX (i) {R1 a R2 b} [H1 : EncL Qv R1 a] [H2 : EncL Qv R2 b] : LP T (n + 3) 65 4 (frm [(0, .imm 8 R1), (1, .imm 8 R2), (5, .i .i64 i)]) [] =
  VR (run (Zs a b) i) (fun (zr : Bool) => (XE.ret, frm [(4, .b zr)], [])) (fun (zr : Unit) => (XE.exit 0, frm [], [])) := by
 rcases H1, H2 with ⟨⟨rfl⟩, ⟨rfl⟩⟩
 rw [Qn]
 simp -dsimp only [↓evA, evB, Qf, Tryz.func65, Tryz.f65, a65, n65, TP, TZ, Nat.reduceAdd, Nat.reduceMul, Nat.reduceBEq, Nat.reduceLeDiff, Nat.reduceLT]
 apply Ql i
 intro i
 simp -dsimp +contextual only [↓evA, eZ, Nat.reduceAdd, Nat.reduceMul, Nat.reduceBEq, Nat.reduceLeDiff, Nat.reduceLT, QiF]
 try simp only [Zs, eY]
 all_goals rfl
theorem QnP {R1 a R2 b} [H1 : EncL Qv R1 a] [H2 : EncL Qv R2 b] : CP T (n + 4) 65 [.imm 8 R1, .imm 8 R2] = (QdK a b).map fun r => .b r := by
 rcases H1, H2 with ⟨⟨rfl⟩, ⟨rfl⟩⟩
 rw [Qc]
 simp -dsimp +contextual only [↓evA, eZ, Nat.reduceAdd, Nat.reduceMul, Nat.reduceBEq, Nat.reduceLeDiff, Nat.reduceLT, Tryz.func65, Tryz.f65, a65, n65, QkX]
 try simp only [QdK, eY]
 all_goals rfl
theorem Qpy {R1 a R2 b} [H1 : EncR Vf R1 a] [H2 : EncR Vf R2 b] : CP T (n + 1) 139 [.agg R1, .agg R2] = (Qeu a b).map fun r => .b r := by
 rcases H1, H2 with ⟨⟨rfl⟩, ⟨rfl⟩⟩
 rw [Qc]
 simp -dsimp +contextual only [↓evA, eZ, Nat.reduceAdd, Nat.reduceMul, Nat.reduceBEq, Nat.reduceLeDiff, Nat.reduceLT, Tryz.func139, Tryz.f139, QRX, QBm]
 try simp only [Qeu, eY]
 all_goals rfl
theorem Qka (i) {R1 a R2 b} [H1 : EncL Vf R1 a] [H2 : EncL Vf R2 b] : LP T (n + 2) 39 4 (frm [(0, .imm 2 R1), (1, .imm 2 R2), (5, .i .i64 i)]) [] =
  VR (run (ZF a b) i) (fun (zr : Bool) => (XE.ret, frm [(4, .b zr)], [])) (fun (zr : Unit) => (XE.exit 0, frm [], [])) := by
 rcases H1, H2 with ⟨⟨rfl⟩, ⟨rfl⟩⟩
 rw [Qn]
 simp -dsimp only [↓evA, evB, Qf, Tryz.func39, Tryz.f39, a39, n39, TP, TZ, Nat.reduceAdd, Nat.reduceMul, Nat.reduceBEq, Nat.reduceLeDiff, Nat.reduceLT]
 apply Ql i
 intro i
 simp -dsimp +contextual only [↓evA, eZ, Nat.reduceAdd, Nat.reduceMul, Nat.reduceBEq, Nat.reduceLeDiff, Nat.reduceLT, Qpy]
 try simp only [ZF, eY]
 all_goals rfl
theorem Qg7 {R1 a R2 b} [H1 : EncL Vf R1 a] [H2 : EncL Vf R2 b] : CP T (n + 3) 39 [.imm 2 R1, .imm 2 R2] = (Qb6 a b).map fun r => .b r := by
 rcases H1, H2 with ⟨⟨rfl⟩, ⟨rfl⟩⟩
 rw [Qc]
 simp -dsimp +contextual only [↓evA, eZ, Nat.reduceAdd, Nat.reduceMul, Nat.reduceBEq, Nat.reduceLeDiff, Nat.reduceLT, Tryz.func39, Tryz.f39, a39, n39, Qka]
 try simp only [Qb6, eY]
 all_goals rfl
theorem QmT {R1 a R2 b} [H1 : EncR QH R1 a] [H2 : EncR QH R2 b] : CP T (n + 4) 165 [.agg R1, .agg R2] = (QcB a b).map fun r => .b r := by
 rcases H1, H2 with ⟨⟨rfl⟩, ⟨rfl⟩⟩
 rw [Qc]
 simp -dsimp +contextual only [↓evA, eZ, Nat.reduceAdd, Nat.reduceMul, Nat.reduceBEq, Nat.reduceLeDiff, Nat.reduceLT, Tryz.func165, Tryz.f165, QSh, QDJ, Qg7]
 try simp only [QcB, eY]
 all_goals rfl
theorem Qh4 (i) {R1 a R2 b} [H1 : EncL QH R1 a] [H2 : EncL QH R2 b] : LP T (n + 5) 66 4 (frm [(0, .imm 3 R1), (1, .imm 3 R2), (5, .i .i64 i)]) [] =
  VR (run (Jf a b) i) (fun (zr : Bool) => (XE.ret, frm [(4, .b zr)], [])) (fun (zr : Unit) => (XE.exit 0, frm [], [])) := by
 rcases H1, H2 with ⟨⟨rfl⟩, ⟨rfl⟩⟩
 rw [Qn]
 simp -dsimp only [↓evA, evB, Qf, Tryz.func66, Tryz.f66, a66, n66, TP, TZ, Nat.reduceAdd, Nat.reduceMul, Nat.reduceBEq, Nat.reduceLeDiff, Nat.reduceLT]
 apply Ql i
 intro i
 simp -dsimp +contextual only [↓evA, eZ, Nat.reduceAdd, Nat.reduceMul, Nat.reduceBEq, Nat.reduceLeDiff, Nat.reduceLT, QmT]
 try simp only [Jf, eY]
 all_goals rfl
theorem Qlh {R1 a R2 b} [H1 : EncL QH R1 a] [H2 : EncL QH R2 b] : CP T (n + 6) 66 [.imm 3 R1, .imm 3 R2] = (QbI a b).map fun r => .b r := by
 rcases H1, H2 with ⟨⟨rfl⟩, ⟨rfl⟩⟩
 rw [Qc]
 simp -dsimp +contextual only [↓evA, eZ, Nat.reduceAdd, Nat.reduceMul, Nat.reduceBEq, Nat.reduceLeDiff, Nat.reduceLT, Tryz.func66, Tryz.f66, a66, n66, Qh4]
 try simp only [QbI, eY]
 all_goals rfl
theorem QpC {R1 a R2 b} [H1 : EncR QL R1 a] [H2 : EncR QL R2 b] : CP T (n + 1) 71 [.agg R1, .agg R2] = (Qet a b).map fun r => .b r := by
 rcases H1, H2 with ⟨⟨rfl⟩, ⟨rfl⟩⟩
 rw [Qc]
 simp -dsimp +contextual only [↓evA, eZ, Nat.reduceAdd, Nat.reduceMul, Nat.reduceBEq, Nat.reduceLeDiff, Nat.reduceLT, Tryz.func71, Tryz.f71, a71, n71]
 try simp only [Qet, eY]
 all_goals rfl
theorem Qkz (i) {R1 a R2 b} [H1 : EncL QL R1 a] [H2 : EncL QL R2 b] : LP T (n + 2) 18 4 (frm [(0, .imm 3 R1), (1, .imm 3 R2), (5, .i .i64 i)]) [] =
  VR (run (Zu a b) i) (fun (zr : Bool) => (XE.ret, frm [(4, .b zr)], [])) (fun (zr : Unit) => (XE.exit 0, frm [], [])) := by
 rcases H1, H2 with ⟨⟨rfl⟩, ⟨rfl⟩⟩
 rw [Qn]
 simp -dsimp only [↓evA, evB, Qf, Tryz.func18, Tryz.f18, a18, n18, TP, TZ, Nat.reduceAdd, Nat.reduceMul, Nat.reduceBEq, Nat.reduceLeDiff, Nat.reduceLT]
 apply Ql i
 intro i
 simp -dsimp +contextual only [↓evA, eZ, Nat.reduceAdd, Nat.reduceMul, Nat.reduceBEq, Nat.reduceLeDiff, Nat.reduceLT, QpC]
 try simp only [Zu, eY]
 all_goals rfl
theorem Qph {R1 a R2 b} [H1 : EncL QL R1 a] [H2 : EncL QL R2 b] : CP T (n + 3) 18 [.imm 3 R1, .imm 3 R2] = (QdS a b).map fun r => .b r := by
 rcases H1, H2 with ⟨⟨rfl⟩, ⟨rfl⟩⟩
 rw [Qc]
 simp -dsimp +contextual only [↓evA, eZ, Nat.reduceAdd, Nat.reduceMul, Nat.reduceBEq, Nat.reduceLeDiff, Nat.reduceLT, Tryz.func18, Tryz.f18, a18, n18, Qkz]
 try simp only [QdS, eY]
 all_goals rfl
theorem Qnq {R1 a R2 b} [H1 : EncR Qg R1 a] [H2 : EncR Qg R2 b] : CP T (n + 1) 166 [.agg R1, .agg R2] = (Qdq a b).map fun r => .b r := by
 rcases H1, H2 with ⟨⟨rfl⟩, ⟨rfl⟩⟩
 rw [Qc]
 simp -dsimp +contextual only [↓evA, eZ, Nat.reduceAdd, Nat.reduceMul, Nat.reduceBEq, Nat.reduceLeDiff, Nat.reduceLT, Tryz.func166, Tryz.f166, QTA, QDm]
 try simp only [Qdq, eY]
 all_goals rfl
theorem QiU (i) {R1 a R2 b} [H1 : EncL Qg R1 a] [H2 : EncL Qg R2 b] : LP T (n + 2) 67 4 (frm [(0, .imm 5 R1), (1, .imm 5 R2), (5, .i .i64 i)]) [] =
  VR (run (JV a b) i) (fun (zr : Bool) => (XE.ret, frm [(4, .b zr)], [])) (fun (zr : Unit) => (XE.exit 0, frm [], [])) := by
 rcases H1, H2 with ⟨⟨rfl⟩, ⟨rfl⟩⟩
 rw [Qn]
 simp -dsimp only [↓evA, evB, Qf, Tryz.func67, Tryz.f67, a67, n67, TP, TZ, Nat.reduceAdd, Nat.reduceMul, Nat.reduceBEq, Nat.reduceLeDiff, Nat.reduceLT]
 apply Ql i
 intro i
 simp -dsimp +contextual only [↓evA, eZ, Nat.reduceAdd, Nat.reduceMul, Nat.reduceBEq, Nat.reduceLeDiff, Nat.reduceLT, Qnq]
 try simp only [JV, eY]
 all_goals rfl
theorem QmY {R1 a R2 b} [H1 : EncL Qg R1 a] [H2 : EncL Qg R2 b] : CP T (n + 3) 67 [.imm 5 R1, .imm 5 R2] = (QcT a b).map fun r => .b r := by
 rcases H1, H2 with ⟨⟨rfl⟩, ⟨rfl⟩⟩
 rw [Qc]
 simp -dsimp +contextual only [↓evA, eZ, Nat.reduceAdd, Nat.reduceMul, Nat.reduceBEq, Nat.reduceLeDiff, Nat.reduceLT, Tryz.func67, Tryz.f67, a67, n67, QiU]
 try simp only [QcT, eY]
 all_goals rfl
theorem Qn0 {R1 a R2 b} [H1 : EncR QA R1 a] [H2 : EncR QA R2 b] : CP T (n + 1) 167 [.agg R1, .agg R2] = (QdB a b).map fun r => .b r := by
 rcases H1, H2 with ⟨⟨rfl⟩, ⟨rfl⟩⟩
 rw [Qc]
 simp -dsimp +contextual only [↓evA, eZ, Nat.reduceAdd, Nat.reduceMul, Nat.reduceBEq, Nat.reduceLeDiff, Nat.reduceLT, Tryz.func167, Tryz.f167, QRB, QC9]
 try simp only [QdB, eY]
 all_goals rfl
theorem Qjf (i) {R1 a R2 b} [H1 : EncL QA R1 a] [H2 : EncL QA R2 b] : LP T (n + 2) 68 4 (frm [(0, .imm 4 R1), (1, .imm 4 R2), (5, .i .i64 i)]) [] =
  VR (run (J2 a b) i) (fun (zr : Bool) => (XE.ret, frm [(4, .b zr)], [])) (fun (zr : Unit) => (XE.exit 0, frm [], [])) := by
 rcases H1, H2 with ⟨⟨rfl⟩, ⟨rfl⟩⟩
 rw [Qn]
 simp -dsimp only [↓evA, evB, Qf, Tryz.func68, Tryz.f68, a68, n68, TP, TZ, Nat.reduceAdd, Nat.reduceMul, Nat.reduceBEq, Nat.reduceLeDiff, Nat.reduceLT]
 apply Ql i
 intro i
 simp -dsimp +contextual only [↓evA, eZ, Nat.reduceAdd, Nat.reduceMul, Nat.reduceBEq, Nat.reduceLeDiff, Nat.reduceLT, Qn0]
 try simp only [J2, eY]
 all_goals rfl
theorem QmA {R1 a R2 b} [H1 : EncL QA R1 a] [H2 : EncL QA R2 b] : CP T (n + 3) 68 [.imm 4 R1, .imm 4 R2] = (QcC a b).map fun r => .b r := by
 rcases H1, H2 with ⟨⟨rfl⟩, ⟨rfl⟩⟩
 rw [Qc]
 simp -dsimp +contextual only [↓evA, eZ, Nat.reduceAdd, Nat.reduceMul, Nat.reduceBEq, Nat.reduceLeDiff, Nat.reduceLT, Tryz.func68, Tryz.f68, a68, n68, Qjf]
 try simp only [QcC, eY]
 all_goals rfl
theorem Qpq {R1 a R2 b} [H1 : EncR Q1 R1 a] [H2 : EncR Q1 R2 b] : CP T (n + 1) 168 [.agg R1, .agg R2] = (Qep a b).map fun r => .b r := by
 rcases H1, H2 with ⟨⟨rfl⟩, ⟨rfl⟩⟩
 rw [Qc]
 simp -dsimp +contextual only [↓evA, eZ, Nat.reduceAdd, Nat.reduceMul, Nat.reduceBEq, Nat.reduceLeDiff, Nat.reduceLT, Tryz.func168, Tryz.f168, QUa, QEg]
 try simp only [Qep, eY]
 all_goals rfl
theorem QkJ (i) {R1 a R2 b} [H1 : EncL Q1 R1 a] [H2 : EncL Q1 R2 b] : LP T (n + 2) 69 4 (frm [(0, .imm 5 R1), (1, .imm 5 R2), (5, .i .i64 i)]) [] =
  VR (run (ZE a b) i) (fun (zr : Bool) => (XE.ret, frm [(4, .b zr)], [])) (fun (zr : Unit) => (XE.exit 0, frm [], [])) := by
 rcases H1, H2 with ⟨⟨rfl⟩, ⟨rfl⟩⟩
 rw [Qn]
 simp -dsimp only [↓evA, evB, Qf, Tryz.func69, Tryz.f69, a69, n69, TP, TZ, Nat.reduceAdd, Nat.reduceMul, Nat.reduceBEq, Nat.reduceLeDiff, Nat.reduceLT]
 apply Ql i
 intro i
 simp -dsimp +contextual only [↓evA, eZ, Nat.reduceAdd, Nat.reduceMul, Nat.reduceBEq, Nat.reduceLeDiff, Nat.reduceLT, Qpq]
 try simp only [ZE, eY]
 all_goals rfl
theorem QnX {R1 a R2 b} [H1 : EncL Q1 R1 a] [H2 : EncL Q1 R2 b] : CP T (n + 3) 69 [.imm 5 R1, .imm 5 R2] = (QdO a b).map fun r => .b r := by
 rcases H1, H2 with ⟨⟨rfl⟩, ⟨rfl⟩⟩
 rw [Qc]
 simp -dsimp +contextual only [↓evA, eZ, Nat.reduceAdd, Nat.reduceMul, Nat.reduceBEq, Nat.reduceLeDiff, Nat.reduceLT, Tryz.func69, Tryz.f69, a69, n69, QkJ]
 try simp only [QdO, eY]
 all_goals rfl
theorem QnS {R1 a R2 b} [H1 : EncR QK R1 a] [H2 : EncR QK R2 b] : CP T (n + 1) 169 [.agg R1, .agg R2] = (Qdv a b).map fun r => .b r := by
 rcases H1, H2 with ⟨⟨rfl⟩, ⟨rfl⟩⟩
 rw [Qc]
 simp -dsimp +contextual only [↓evA, eZ, Nat.reduceAdd, Nat.reduceMul, Nat.reduceBEq, Nat.reduceLeDiff, Nat.reduceLT, Tryz.func169, Tryz.f169, QVg, QCb]
 try simp only [Qdv, eY]
 all_goals rfl
theorem Qjh (i) {R1 a R2 b} [H1 : EncL QK R1 a] [H2 : EncL QK R2 b] : LP T (n + 2) 70 4 (frm [(0, .imm 4 R1), (1, .imm 4 R2), (5, .i .i64 i)]) [] =
  VR (run (JZ a b) i) (fun (zr : Bool) => (XE.ret, frm [(4, .b zr)], [])) (fun (zr : Unit) => (XE.exit 0, frm [], [])) := by
 rcases H1, H2 with ⟨⟨rfl⟩, ⟨rfl⟩⟩
 rw [Qn]
 simp -dsimp only [↓evA, evB, Qf, Tryz.func70, Tryz.f70, a70, n70, TP, TZ, Nat.reduceAdd, Nat.reduceMul, Nat.reduceBEq, Nat.reduceLeDiff, Nat.reduceLT]
 apply Ql i
 intro i
 simp -dsimp +contextual only [↓evA, eZ, Nat.reduceAdd, Nat.reduceMul, Nat.reduceBEq, Nat.reduceLeDiff, Nat.reduceLT, QnS]
 try simp only [JZ, eY]
 all_goals rfl
theorem QmU {R1 a R2 b} [H1 : EncL QK R1 a] [H2 : EncL QK R2 b] : CP T (n + 3) 70 [.imm 4 R1, .imm 4 R2] = (QcZ a b).map fun r => .b r := by
 rcases H1, H2 with ⟨⟨rfl⟩, ⟨rfl⟩⟩
 rw [Qc]
 simp -dsimp +contextual only [↓evA, eZ, Nat.reduceAdd, Nat.reduceMul, Nat.reduceBEq, Nat.reduceLeDiff, Nat.reduceLT, Tryz.func70, Tryz.f70, a70, n70, Qjh]
 try simp only [QcZ, eY]
 all_goals rfl
theorem Qnx {R1 a R2 b} [H1 : EncR QC R1 a] [H2 : EncR QC R2 b] : CP T (n + 7) 17 [.agg R1, .agg R2] = (ZM a b).map fun r => .b r := by
 rcases H1, H2 with ⟨⟨rfl⟩, ⟨rfl⟩⟩
 rw [Qc]
 simp -dsimp +contextual (maxSteps := 100000000) only [↓evA, eZ, Nat.reduceAdd, Nat.reduceMul, Nat.reduceBEq, Nat.reduceLeDiff, Nat.reduceLT, Tryz.func17, Tryz.f17, a17, n17, QnP, Qlh, Qph, QmY, QmA, QnX, QmU]
 try simp only [ZM, eY]
 all_goals rfl
theorem QrL {R1 a R2 b} [H1 : EncR Vx R1 a] [H2 : EncR Vx R2 b] : CP T (n + 1) 145 [.agg R1, .agg R2] = (Qe0 a b).map fun r => .b r := by
 rcases H1, H2 with ⟨⟨rfl⟩, ⟨rfl⟩⟩
 rw [Qc]
 simp -dsimp +contextual only [↓evA, eZ, Nat.reduceAdd, Nat.reduceMul, Nat.reduceBEq, Nat.reduceLeDiff, Nat.reduceLT, Tryz.func145, Tryz.f145, QTU, QDE]
 try simp only [Qe0, eY]
 all_goals rfl
theorem Ql2 (i) {R1 a R2 b} [H1 : EncL Vx R1 a] [H2 : EncL Vx R2 b] : LP T (n + 2) 45 4 (frm [(0, .imm 3 R1), (1, .imm 3 R2), (5, .i .i64 i)]) [] =
  VR (run (Qau a b) i) (fun (zr : Bool) => (XE.ret, frm [(4, .b zr)], [])) (fun (zr : Unit) => (XE.exit 0, frm [], [])) := by
 rcases H1, H2 with ⟨⟨rfl⟩, ⟨rfl⟩⟩
 rw [Qn]
 simp -dsimp only [↓evA, evB, Qf, Tryz.func45, Tryz.f45, a45, n45, TP, TZ, Nat.reduceAdd, Nat.reduceMul, Nat.reduceBEq, Nat.reduceLeDiff, Nat.reduceLT]
 apply Ql i
 intro i
 simp -dsimp +contextual only [↓evA, eZ, Nat.reduceAdd, Nat.reduceMul, Nat.reduceBEq, Nat.reduceLeDiff, Nat.reduceLT, QrL]
 try simp only [Qau, eY]
 all_goals rfl
theorem Qpl {R1 a R2 b} [H1 : EncL Vx R1 a] [H2 : EncL Vx R2 b] : CP T (n + 3) 45 [.imm 3 R1, .imm 3 R2] = (Qer a b).map fun r => .b r := by
 rcases H1, H2 with ⟨⟨rfl⟩, ⟨rfl⟩⟩
 rw [Qc]
 simp -dsimp +contextual only [↓evA, eZ, Nat.reduceAdd, Nat.reduceMul, Nat.reduceBEq, Nat.reduceLeDiff, Nat.reduceLT, Tryz.func45, Tryz.f45, a45, n45, Ql2]
 try simp only [Qer, eY]
 all_goals rfl
theorem QoR {R1 a R2 b} [H1 : EncR XB R1 a] [H2 : EncR XB R2 b] : CP T (n + 4) 51 [.agg R1, .agg R2] = (QdA a b).map fun r => .b r := by
 rcases H1, H2 with ⟨⟨rfl⟩, ⟨rfl⟩⟩
 rw [Qc]
 simp -dsimp +contextual only [↓evA, eZ, Nat.reduceAdd, Nat.reduceMul, Nat.reduceBEq, Nat.reduceLeDiff, Nat.reduceLT, Tryz.func51, Tryz.f51, a51, n51, QiF, Qg7, Qpl]
 try simp only [QdA, eY]
 all_goals rfl
theorem Qi9 (i) {R1 a R2 b} [H1 : EncL XB R1 a] [H2 : EncL XB R2 b] : LP T (n + 5) 57 4 (frm [(0, .imm 14 R1), (1, .imm 14 R2), (5, .i .i64 i)]) [] =
  VR (run (J1 a b) i) (fun (zr : Bool) => (XE.ret, frm [(4, .b zr)], [])) (fun (zr : Unit) => (XE.exit 0, frm [], [])) := by
 rcases H1, H2 with ⟨⟨rfl⟩, ⟨rfl⟩⟩
 rw [Qn]
 simp -dsimp only [↓evA, evB, Qf, Tryz.func57, Tryz.f57, a57, n57, TP, TZ, Nat.reduceAdd, Nat.reduceMul, Nat.reduceBEq, Nat.reduceLeDiff, Nat.reduceLT]
 apply Ql i
 intro i
 simp -dsimp +contextual only [↓evA, eZ, Nat.reduceAdd, Nat.reduceMul, Nat.reduceBEq, Nat.reduceLeDiff, Nat.reduceLT, QoR]
 try simp only [J1, eY]
 all_goals rfl
theorem QmM {R1 a R2 b} [H1 : EncL XB R1 a] [H2 : EncL XB R2 b] : CP T (n + 6) 57 [.imm 14 R1, .imm 14 R2] = (QcD a b).map fun r => .b r := by
 rcases H1, H2 with ⟨⟨rfl⟩, ⟨rfl⟩⟩
 rw [Qc]
 simp -dsimp +contextual only [↓evA, eZ, Nat.reduceAdd, Nat.reduceMul, Nat.reduceBEq, Nat.reduceLeDiff, Nat.reduceLT, Tryz.func57, Tryz.f57, a57, n57, Qi9]
 try simp only [QcD, eY]
 all_goals rfl
theorem Qh8 (a2 a3) {R1 a} [H1 : EncL Qv R1 a] : LP T (n + 1) 72 2 (frm [(0, .sl 0), (1, .i .i64 a2), (5, .i .i64 a3)]) [some (Ent.lst 8 R1)] =
  (run Jq (a, a2, a3)).map (fun (zr : (List Find) × Int) => (XE.exit 0, frm [(0, .sl 0), (1, .i .i64 zr.2)], [some (Ent.lst 8 (zr.1.map Qv))])) := by
 obtain ⟨rfl⟩ := H1
 rw [Qn]
 simp -dsimp only [↓evA, evB, Qf, Tryz.func72, Tryz.f72, a72, n72, TP, TZ, Nat.reduceAdd, Nat.reduceMul, Nat.reduceBEq, Nat.reduceLeDiff, Nat.reduceLT]
 apply JG a a2 a3
 intro a a2 a3
 simp -dsimp +contextual only [↓evA, eZ, Nat.reduceAdd, Nat.reduceMul, Nat.reduceBEq, Nat.reduceLeDiff, Nat.reduceLT]
 try simp only [Jq, eY]
 all_goals rfl
theorem QlR (a2) {R1 a} [H1 : EncL Qv R1 a] : CA T (n + 2) 72 [some (Ent.lst 8 R1)] [.sl 0, .i .i64 a2] = (QbF a a2).map fun r => (.i .i64 r.2, [some (Ent.lst 8 (r.1.map Qv))]) := by
 obtain ⟨rfl⟩ := H1
 rw [Qft]
 simp -dsimp +contextual only [↓evA, eZ, Nat.reduceAdd, Nat.reduceMul, Nat.reduceBEq, Nat.reduceLeDiff, Nat.reduceLT, Tryz.func72, Tryz.f72, a72, n72, Qh8]
 try simp only [QbF, eY]
 all_goals rfl
theorem Qiq (k i) {R1 a} [H1 : EncL Vf R1 a] : LP T (n + 1) 40 2 (frm [(0, .sl 0), (1, .i .i64 k), (5, .i .i64 i)]) [some (Ent.lst 2 R1)] =
  (run Je (a, k, i)).map (fun (zr : (List Mark) × Int) => (XE.exit 0, frm [(0, .sl 0), (1, .i .i64 zr.2)], [some (Ent.lst 2 (zr.1.map Vf))])) := by
 obtain ⟨rfl⟩ := H1
 rw [Qn]
 simp -dsimp only [↓evA, evB, Qf, Tryz.func40, Tryz.f40, a40, n40, TP, TZ, Nat.reduceAdd, Nat.reduceMul, Nat.reduceBEq, Nat.reduceLeDiff, Nat.reduceLT]
 apply JG a k i
 intro a k i
 simp -dsimp +contextual only [↓evA, eZ, Nat.reduceAdd, Nat.reduceMul, Nat.reduceBEq, Nat.reduceLeDiff, Nat.reduceLT]
 try simp only [Je, eY]
 all_goals rfl
theorem Qf5 (k) {R1 a} [H1 : EncL Vf R1 a] : CA T (n + 2) 40 [some (Ent.lst 2 R1)] [.sl 0, .i .i64 k] = (Qaw a k).map fun r => (.i .i64 r.2, [some (Ent.lst 2 (r.1.map Vf))]) := by
 obtain ⟨rfl⟩ := H1
 rw [Qft]
 simp -dsimp +contextual only [↓evA, eZ, Nat.reduceAdd, Nat.reduceMul, Nat.reduceBEq, Nat.reduceLeDiff, Nat.reduceLT, Tryz.func40, Tryz.f40, a40, n40, Qiq]
 try simp only [Qaw, eY]
 all_goals rfl
theorem QgO (k i) {R1 a} [H1 : EncL Qw R1 a] : LP T (n + 3) 73 2 (frm [(0, .sl 0), (1, .i .i64 k), (5, .i .i64 i)]) [some (Ent.lst 3 R1)] =
  (run Xv (a, k, i)).map (fun (zr : (List Secret) × Int) => (XE.exit 0, frm [(0, .sl 0), (1, .i .i64 zr.2)], [some (Ent.lst 3 (zr.1.map Qw))])) := by
 obtain ⟨rfl⟩ := H1
 rw [Qn]
 simp -dsimp only [↓evA, evB, Qf, Tryz.func73, Tryz.f73, a73, n73, TP, TZ, Nat.reduceAdd, Nat.reduceMul, Nat.reduceBEq, Nat.reduceLeDiff, Nat.reduceLT]
 apply JG a k i
 intro a k i
 simp -dsimp +contextual only [↓evA, eZ, Nat.reduceAdd, Nat.reduceMul, Nat.reduceBEq, Nat.reduceLeDiff, Nat.reduceLT, srt, Qf5]
 try simp only [Xv, eY]
 all_goals rfl
theorem QiQ (k) {R1 a} [H1 : EncL Qw R1 a] : CA T (n + 4) 73 [some (Ent.lst 3 R1)] [.sl 0, .i .i64 k] = (Qad a k).map fun r => (.i .i64 r.2, [some (Ent.lst 3 (r.1.map Qw))]) := by
 obtain ⟨rfl⟩ := H1
 rw [Qft]
 simp -dsimp +contextual only [↓evA, eZ, Nat.reduceAdd, Nat.reduceMul, Nat.reduceBEq, Nat.reduceLeDiff, Nat.reduceLT, Tryz.func73, Tryz.f73, a73, n73, srt, QgO]
 try simp only [Qad, eY]
 all_goals rfl
theorem Qix (k i) {R1 a} [H1 : EncL QL R1 a] : LP T (n + 1) 19 2 (frm [(0, .sl 0), (1, .i .i64 k), (5, .i .i64 i)]) [some (Ent.lst 3 R1)] =
  (run Jo (a, k, i)).map (fun (zr : (List Slot) × Int) => (XE.exit 0, frm [(0, .sl 0), (1, .i .i64 zr.2)], [some (Ent.lst 3 (zr.1.map QL))])) := by
 obtain ⟨rfl⟩ := H1
 rw [Qn]
 simp -dsimp only [↓evA, evB, Qf, Tryz.func19, Tryz.f19, a19, n19, TP, TZ, Nat.reduceAdd, Nat.reduceMul, Nat.reduceBEq, Nat.reduceLeDiff, Nat.reduceLT]
 apply JG a k i
 intro a k i
 simp -dsimp +contextual only [↓evA, eZ, Nat.reduceAdd, Nat.reduceMul, Nat.reduceBEq, Nat.reduceLeDiff, Nat.reduceLT]
 try simp only [Jo, eY]
 all_goals rfl
theorem QlD (k) {R1 a} [H1 : EncL QL R1 a] : CA T (n + 2) 19 [some (Ent.lst 3 R1)] [.sl 0, .i .i64 k] = (QbN a k).map fun r => (.i .i64 r.2, [some (Ent.lst 3 (r.1.map QL))]) := by
 obtain ⟨rfl⟩ := H1
 rw [Qft]
 simp -dsimp +contextual only [↓evA, eZ, Nat.reduceAdd, Nat.reduceMul, Nat.reduceBEq, Nat.reduceLeDiff, Nat.reduceLT, Tryz.func19, Tryz.f19, a19, n19, Qix]
 try simp only [QbN, eY]
 all_goals rfl
theorem Qg6 (k i) {R1 a} [H1 : EncL Qg R1 a] : LP T (n + 1) 74 2 (frm [(0, .sl 0), (1, .i .i64 k), (5, .i .i64 i)]) [some (Ent.lst 5 R1)] =
  (run XT (a, k, i)).map (fun (zr : (List Claim) × Int) => (XE.exit 0, frm [(0, .sl 0), (1, .i .i64 zr.2)], [some (Ent.lst 5 (zr.1.map Qg))])) := by
 obtain ⟨rfl⟩ := H1
 rw [Qn]
 simp -dsimp only [↓evA, evB, Qf, Tryz.func74, Tryz.f74, a74, n74, TP, TZ, Nat.reduceAdd, Nat.reduceMul, Nat.reduceBEq, Nat.reduceLeDiff, Nat.reduceLT]
 apply JG a k i
 intro a k i
 simp -dsimp +contextual only [↓evA, eZ, Nat.reduceAdd, Nat.reduceMul, Nat.reduceBEq, Nat.reduceLeDiff, Nat.reduceLT]
 try simp only [XT, eY]
 all_goals rfl
theorem Qjv (k) {R1 a} [H1 : EncL Qg R1 a] : CA T (n + 2) 74 [some (Ent.lst 5 R1)] [.sl 0, .i .i64 k] = (QaW a k).map fun r => (.i .i64 r.2, [some (Ent.lst 5 (r.1.map Qg))]) := by
 obtain ⟨rfl⟩ := H1
 rw [Qft]
 simp -dsimp +contextual only [↓evA, eZ, Nat.reduceAdd, Nat.reduceMul, Nat.reduceBEq, Nat.reduceLeDiff, Nat.reduceLT, Tryz.func74, Tryz.f74, a74, n74, Qg6]
 try simp only [QaW, eY]
 all_goals rfl
theorem Qhx (k i) {R1 a} [H1 : EncL QA R1 a] : LP T (n + 1) 75 2 (frm [(0, .sl 0), (1, .i .i64 k), (5, .i .i64 i)]) [some (Ent.lst 4 R1)] =
  (run XU (a, k, i)).map (fun (zr : (List Trial) × Int) => (XE.exit 0, frm [(0, .sl 0), (1, .i .i64 zr.2)], [some (Ent.lst 4 (zr.1.map QA))])) := by
 obtain ⟨rfl⟩ := H1
 rw [Qn]
 simp -dsimp only [↓evA, evB, Qf, Tryz.func75, Tryz.f75, a75, n75, TP, TZ, Nat.reduceAdd, Nat.reduceMul, Nat.reduceBEq, Nat.reduceLeDiff, Nat.reduceLT]
 apply JG a k i
 intro a k i
 simp -dsimp +contextual only [↓evA, eZ, Nat.reduceAdd, Nat.reduceMul, Nat.reduceBEq, Nat.reduceLeDiff, Nat.reduceLT]
 try simp only [XU, eY]
 all_goals rfl
theorem Qkh (k) {R1 a} [H1 : EncL QA R1 a] : CA T (n + 2) 75 [some (Ent.lst 4 R1)] [.sl 0, .i .i64 k] = (QaV a k).map fun r => (.i .i64 r.2, [some (Ent.lst 4 (r.1.map QA))]) := by
 obtain ⟨rfl⟩ := H1
 rw [Qft]
 simp -dsimp +contextual only [↓evA, eZ, Nat.reduceAdd, Nat.reduceMul, Nat.reduceBEq, Nat.reduceLeDiff, Nat.reduceLT, Tryz.func75, Tryz.f75, a75, n75, Qhx]
 try simp only [QaV, eY]
 all_goals rfl
end Go.Proofs.YtcdffihcfeajfaaGreat
