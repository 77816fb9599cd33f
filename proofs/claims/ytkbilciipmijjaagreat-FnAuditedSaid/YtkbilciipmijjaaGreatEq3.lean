import Derived.Test.YtkbilciipmijjaaGreatEq2
namespace Go.Proofs.YtkbilciipmijjaaGreat
open Go Go.Proofs Go.Proofs.YtkbilciipmijjaaGreat.Am
set_option maxHeartbeats 4000000
set_option linter.unusedVariables false
set_option linter.unusedSimpArgs false
set_option linter.defProp false
set_option maxRecDepth 100000
variable (n : Nat)
theorem QhN {R1 l} [H1 : EncL VF R1 l] : CP T (n + 5) 60 [.imm 3 R1] = (Jr l).map fun r => .b r := by
 obtain ⟨rfl⟩ := H1
 rw [Qg]
 simp -dsimp +contextual only [↓evA, eZ, Nat.reduceAdd, Nat.reduceMul, Nat.reduceBEq, Nat.reduceLeDiff, Nat.reduceLT, Tryz.func60, Tryz.f60, QJS, Qxk, QfH]
 try simp only [Jr, eY]
 all_goals rfl
theorem Qib (c) {R1 a} [H1 : EncR Vj R1 a] : CP T (n + 1) 141 [.agg R1, .iptr 1 [[.i .i64 c]] 0 0] = (Qbu a c).map fun r => .b r := by
 obtain ⟨rfl⟩ := H1
 rw [Qg]
 simp -dsimp +contextual only [↓evA, eZ, Nat.reduceAdd, Nat.reduceMul, Nat.reduceBEq, Nat.reduceLeDiff, Nat.reduceLT, Tryz.func141, Tryz.f141, QIh, QsD]
 try simp only [Qbu, eY]
 all_goals rfl
theorem ZY (f a a2) {R1 s} [H1 : EncL Vj R1 s] : LP T (n + 2) 140 2 (frm [(0, .imm 3 R1), (1, .clo 141 [.iptr 1 [[.i .i64 f]] 0 0]), (7, .i .i64 a), (8, .i .i64 a2)]) [] =
  J1 (run (Qv s f a) a2) (fun (zr : Int) => (XE.ret, frm [(4, .i .i64 zr)], [])) (fun (zr : Unit) => (XE.exit 0, frm [], [])) := by
 obtain ⟨rfl⟩ := H1
 rw [QB]
 simp -dsimp only [↓evA, evB, Qm, Tryz.func140, Tryz.f140, QAC, Qod, TP, TZ, Nat.reduceAdd, Nat.reduceMul, Nat.reduceBEq, Nat.reduceLeDiff, Nat.reduceLT]
 apply Qq a2
 intro a2
 simp -dsimp +contextual only [↓evA, eZ, Nat.reduceAdd, Nat.reduceMul, Nat.reduceBEq, Nat.reduceLeDiff, Nat.reduceLT, Qib]
 try simp only [Qv, eY]
 all_goals rfl
theorem Qaw (c) {R1 s} [H1 : EncL Vj R1 s] : CP T (n + 3) 140 [.imm 3 R1, .clo 141 [.iptr 1 [[.i .i64 c]] 0 0]] = (Q9 s c).map fun r => .i .i64 r := by
 obtain ⟨rfl⟩ := H1
 rw [Qg]
 simp -dsimp +contextual only [↓evA, eZ, Nat.reduceAdd, Nat.reduceMul, Nat.reduceBEq, Nat.reduceLeDiff, Nat.reduceLT, Tryz.func140, Tryz.f140, QAC, Qod, ZY]
 try simp only [Q9, eY]
 all_goals rfl
theorem QcT (a) {R1 l} [H1 : EncL Vj R1 l] : CP T (n + 4) 68 [.imm 3 R1, .i .i64 a] = (VO l a).map fun r => .i .i64 r := by
 obtain ⟨rfl⟩ := H1
 rw [Qg]
 simp -dsimp +contextual only [↓evA, eZ, Nat.reduceAdd, Nat.reduceMul, Nat.reduceBEq, Nat.reduceLeDiff, Nat.reduceLT, Tryz.func68, Tryz.f68, QPm, Qy7, Qaw]
 try simp only [VO, eY]
 all_goals rfl
theorem Ql9 (a) {R1 l} [H1 : EncL Vj R1 l] : CP T (n + 5) 80 [.imm 3 R1, .i .i64 a] = (QbF l a).map fun r => .i .i64 r := by
 obtain ⟨rfl⟩ := H1
 rw [Qg]
 simp -dsimp +contextual only [↓evA, eZ, Nat.reduceAdd, Nat.reduceMul, Nat.reduceBEq, Nat.reduceLeDiff, Nat.reduceLT, Tryz.func80, Tryz.f80, QMK, Qyv, QcT]
 try simp only [QbF, eY]
 all_goals rfl
theorem Qha (a2 a3) {R1 l R2 a} [H1 : EncL Vj R1 l] [H2 : EncL Vj R2 a] : LP T (n + 6) 18 4 (frm [(0, .imm 3 R1), (8, .imm 3 R2), (9, .i .i64 a2), (10, .i .i64 a3)]) [] =
  J1 (run (JV l a a2) a3) (fun (zr : Bool) => (XE.ret, frm [(2, .b zr)], [])) (fun (zr : Unit) => (XE.exit 0, frm [], [])) := by
 rcases H1, H2 with ⟨⟨rfl⟩, ⟨rfl⟩⟩
 rw [QB]
 simp -dsimp only [↓evA, evB, Qm, Tryz.func18, Tryz.f18, QK4, Qwr, TP, TZ, Nat.reduceAdd, Nat.reduceMul, Nat.reduceBEq, Nat.reduceLeDiff, Nat.reduceLT]
 apply Qq a3
 intro a3
 simp -dsimp +contextual only [↓evA, eZ, Nat.reduceAdd, Nat.reduceMul, Nat.reduceBEq, Nat.reduceLeDiff, Nat.reduceLT, VJ, Ql9]
 try simp only [JV, eY]
 all_goals rfl
theorem Qj2 {R1 l} [H1 : EncL Vj R1 l] : CP T (n + 7) 18 [.imm 3 R1] = (JH l).map fun r => .b r := by
 obtain ⟨rfl⟩ := H1
 rw [Qg]
 simp -dsimp +contextual only [↓evA, eZ, Nat.reduceAdd, Nat.reduceMul, Nat.reduceBEq, Nat.reduceLeDiff, Nat.reduceLT, Tryz.func18, Tryz.f18, QK4, Qwr, Qha]
 try simp only [JH, eY]
 all_goals rfl
theorem QgC (a3 a4 a6 a7) {R1 l R2 a R3 a2 R4 a5} [H1 : EncL QC R1 l] [H2 : EncR QC R2 a] [H3 : EncL QC R3 a2] [H4 : EncL QC R4 a5] : LP T (n + 1) 61 9 (frm [(0, .imm 5 R1), (4, .ptr 0 0 0), (10, .imm 5 R3), (11, .i .i64 a3), (12, .i .i64 a4), (62, .imm 5 R4), (63, .i .i64 a6), (64, .i .i64 a7)]) [some (Ent.box R2)] =
  J1 (run (Xs l a a2 a3 a4 a5 a6) a7) (fun (zr : Bool) => (XE.ret, frm [(2, .b zr)], [])) (fun (zr : Unit) => (XE.exit 2, frm [(0, .imm 5 (l.map QC)), (10, .imm 5 (a2.map QC)), (11, .i .i64 a3), (12, .i .i64 a4)], [])) := by
 rcases H1, H2, H3, H4 with ⟨⟨rfl⟩, ⟨rfl⟩, ⟨rfl⟩, ⟨rfl⟩⟩
 rw [QB]
 simp -dsimp only [↓evA, evB, Qm, Tryz.func61, Tryz.f61, QDH, QtE, TP, TZ, Nat.reduceAdd, Nat.reduceMul, Nat.reduceBEq, Nat.reduceLeDiff, Nat.reduceLT]
 apply Qq a7
 intro a7
 simp -dsimp +contextual only [↓evA, eZ, Nat.reduceAdd, Nat.reduceMul, Nat.reduceBEq, Nat.reduceLeDiff, Nat.reduceLT]
 try simp only [Xs, eY]
 all_goals rfl
theorem QgD (a2 a3) {R1 l R2 a} [H1 : EncL QC R1 l] [H2 : EncL QC R2 a] : LP T (n + 2) 61 4 (frm [(0, .imm 5 R1), (10, .imm 5 R2), (11, .i .i64 a2), (12, .i .i64 a3)]) [] =
  J1 (run (Jg l a a2) a3) (fun (zr : Bool) => (XE.ret, frm [(2, .b zr)], [])) (fun (zr : Unit) => (XE.exit 0, frm [], [])) := by
 rcases H1, H2 with ⟨⟨rfl⟩, ⟨rfl⟩⟩
 rw [QB]
 simp -dsimp only [↓evA, evB, Qm, Tryz.func61, Tryz.f61, QDH, QtE, TP, TZ, Nat.reduceAdd, Nat.reduceMul, Nat.reduceBEq, Nat.reduceLeDiff, Nat.reduceLT]
 apply Qq a3
 intro a3
 simp -dsimp +contextual only [↓evA, eZ, Nat.reduceAdd, Nat.reduceMul, Nat.reduceBEq, Nat.reduceLeDiff, Nat.reduceLT, VJ, QgC]
 try simp only [Jg, eY]
 all_goals rfl
theorem QiP {R1 l} [H1 : EncL QC R1 l] : CP T (n + 3) 61 [.imm 5 R1] = (VZ l).map fun r => .b r := by
 obtain ⟨rfl⟩ := H1
 rw [Qg]
 simp -dsimp +contextual only [↓evA, eZ, Nat.reduceAdd, Nat.reduceMul, Nat.reduceBEq, Nat.reduceLeDiff, Nat.reduceLT, Tryz.func61, Tryz.f61, QDH, QtE, QgD]
 try simp only [VZ, eY]
 all_goals rfl
theorem Qqe (p q) : CP T (n + 2) 322 [.i .i64 p, .i .i64 q] = (QbO p q).map fun r => .i .i64 r := by
 rw [Qg]
 simp -dsimp +contextual only [↓evA, eZ, Nat.reduceAdd, Nat.reduceMul, Nat.reduceBEq, Nat.reduceLeDiff, Nat.reduceLT, Tryz.func322, Tryz.f322, QFt, Qsg, VJ]
 try simp only [QbO, eY]
 all_goals rfl
theorem Qo1 (a v) : CP T (n + 3) 276 [.i .i64 a, .i .i64 v] = (Qgb a v).map fun r => .i .i64 r := by
 rw [Qg]
 simp -dsimp +contextual only [↓evA, eZ, Nat.reduceAdd, Nat.reduceMul, Nat.reduceBEq, Nat.reduceLeDiff, Nat.reduceLT, Tryz.func276, Tryz.f276, QE0, QsT, Qqe]
 try simp only [Qgb, eY]
 all_goals rfl
theorem Qlt (a a3 a4) {R1 a2} [H1 : EncL QU R1 a2] : LP T (n + 4) 217 3 (frm [(3, .i .i64 a), (6, .imm 1 R1), (7, .i .i64 a3), (8, .i .i64 a4)]) [] =
  (run (Qca a2 a3) (a, a4)).map (fun (zr : Int) => (XE.exit 0, frm [(3, .i .i64 zr)], [])) := by
 obtain ⟨rfl⟩ := H1
 rw [QB]
 simp -dsimp only [↓evA, evB, Qm, Tryz.func217, Tryz.f217, QAf, QpY, TP, TZ, Nat.reduceAdd, Nat.reduceMul, Nat.reduceBEq, Nat.reduceLeDiff, Nat.reduceLT]
 apply Vh a a4
 intro a a4
 simp -dsimp +contextual only [↓evA, eZ, Nat.reduceAdd, Nat.reduceMul, Nat.reduceBEq, Nat.reduceLeDiff, Nat.reduceLT, Qo1]
 try simp only [Qca, eY]
 all_goals rfl
theorem Qpw {R1 v} [H1 : EncL QU R1 v] : CP T (n + 5) 217 [.imm 1 R1] = (Qco v).map fun r => .i .i64 r := by
 obtain ⟨rfl⟩ := H1
 rw [Qg]
 simp -dsimp +contextual only [↓evA, eZ, Nat.reduceAdd, Nat.reduceMul, Nat.reduceBEq, Nat.reduceLeDiff, Nat.reduceLT, Tryz.func217, Tryz.f217, QAf, QpY, Qlt]
 try simp only [Qco, eY]
 all_goals rfl
theorem QjO (b) {R1 a} [H1 : EncR VE R1 a] : CP T (n + 6) 136 [.i .i64 b, .agg R1] = (X4 b a).map fun r => .i .i64 r := by
 obtain ⟨rfl⟩ := H1
 rw [Qg]
 simp -dsimp +contextual only [↓evA, eZ, Nat.reduceAdd, Nat.reduceMul, Nat.reduceBEq, Nat.reduceLeDiff, Nat.reduceLT, Tryz.func136, Tryz.f136, QG0, Qs7, Qpw]
 try simp only [X4, eY]
 all_goals rfl
theorem Qhm (a i) {R1 l} [H1 : EncL VE R1 l] : LP T (n + 1) 67 2 (frm [(0, .imm 5 R1), (1, .i .i64 a), (5, .i .i64 i)]) [] =
  J1 (run (ZC l a) i) (fun (zr : Int) => (XE.ret, frm [(4, .i .i64 zr)], [])) (fun (zr : Unit) => (XE.exit 0, frm [], [])) := by
 obtain ⟨rfl⟩ := H1
 rw [QB]
 simp -dsimp only [↓evA, evB, Qm, Tryz.func67, Tryz.f67, QIM, QwP, TP, TZ, Nat.reduceAdd, Nat.reduceMul, Nat.reduceBEq, Nat.reduceLeDiff, Nat.reduceLT]
 apply Qq i
 intro i
 simp -dsimp +contextual only [↓evA, eZ, Nat.reduceAdd, Nat.reduceMul, Nat.reduceBEq, Nat.reduceLeDiff, Nat.reduceLT]
 try simp only [ZC, eY]
 all_goals rfl
theorem QcW (a) {R1 l} [H1 : EncL VE R1 l] : CP T (n + 2) 67 [.imm 5 R1, .i .i64 a] = (JK l a).map fun r => .i .i64 r := by
 obtain ⟨rfl⟩ := H1
 rw [Qg]
 simp -dsimp +contextual only [↓evA, eZ, Nat.reduceAdd, Nat.reduceMul, Nat.reduceBEq, Nat.reduceLeDiff, Nat.reduceLT, Tryz.func67, Tryz.f67, QIM, QwP, Qhm]
 try simp only [JK, eY]
 all_goals rfl
theorem Qih (a a3 a4) {R1 l R2 a2} [H1 : EncL VE R1 l] [H2 : EncL VE R2 a2] : LP T (n + 7) 62 5 (frm [(0, .imm 5 R1), (3, .i .i64 a), (10, .imm 5 R2), (11, .i .i64 a3), (12, .i .i64 a4)]) [] =
  J1 (run (Jt l a2 a3) (a, a4)) (fun (zr : Bool) => (XE.ret, frm [(2, .b zr)], [])) (fun (zr : Unit) => (XE.exit 0, frm [], [])) := by
 rcases H1, H2 with ⟨⟨rfl⟩, ⟨rfl⟩⟩
 rw [QB]
 simp -dsimp only [↓evA, evB, Qm, Tryz.func62, Tryz.f62, QIG, Quo, TP, TZ, Nat.reduceAdd, Nat.reduceMul, Nat.reduceBEq, Nat.reduceLeDiff, Nat.reduceLT]
 apply Vh a a4
 intro a a4
 simp -dsimp +contextual only [↓evA, eZ, Nat.reduceAdd, Nat.reduceMul, Nat.reduceBEq, Nat.reduceLeDiff, Nat.reduceLT, VJ, QjO, QcW]
 try simp only [Jt, eY]
 all_goals rfl
theorem QfE {R1 l} [H1 : EncL VE R1 l] : CP T (n + 8) 62 [.imm 5 R1] = (VA l).map fun r => .b r := by
 obtain ⟨rfl⟩ := H1
 rw [Qg]
 simp -dsimp +contextual only [↓evA, eZ, Nat.reduceAdd, Nat.reduceMul, Nat.reduceBEq, Nat.reduceLeDiff, Nat.reduceLT, Tryz.func62, Tryz.f62, QIG, Quo, Qih]
 try simp only [VA, eY]
 all_goals rfl
theorem QfQ (a2 a3) {R1 l R2 a} [H1 : EncL Vw R1 l] [H2 : EncL Vw R2 a] : LP T (n + 2) 63 4 (frm [(0, .imm 4 R1), (8, .imm 4 R2), (9, .i .i64 a2), (10, .i .i64 a3)]) [] =
  J1 (run (XJ l a a2) a3) (fun (zr : Bool) => (XE.ret, frm [(2, .b zr)], [])) (fun (zr : Unit) => (XE.exit 0, frm [], [])) := by
 rcases H1, H2 with ⟨⟨rfl⟩, ⟨rfl⟩⟩
 rw [QB]
 simp -dsimp only [↓evA, evB, Qm, Tryz.func63, Tryz.f63, QKD, QvA, TP, TZ, Nat.reduceAdd, Nat.reduceMul, Nat.reduceBEq, Nat.reduceLeDiff, Nat.reduceLT]
 apply Qq a3
 intro a3
 simp -dsimp +contextual only [↓evA, eZ, Nat.reduceAdd, Nat.reduceMul, Nat.reduceBEq, Nat.reduceLeDiff, Nat.reduceLT, VJ]
 try simp only [XJ, eY]
 all_goals rfl
theorem Qcc {R1 l} [H1 : EncL Vw R1 l] : CP T (n + 3) 63 [.imm 4 R1] = (V4 l).map fun r => .b r := by
 obtain ⟨rfl⟩ := H1
 rw [Qg]
 simp -dsimp +contextual only [↓evA, eZ, Nat.reduceAdd, Nat.reduceMul, Nat.reduceBEq, Nat.reduceLeDiff, Nat.reduceLT, Tryz.func63, Tryz.f63, QKD, QvA, QfQ]
 try simp only [V4, eY]
 all_goals rfl
theorem QhR (a a3 a4) {R1 l R2 o R3 a2} [H1 : EncL VE R1 l] [H2 : EncL QU R2 o] [H3 : EncL VE R3 a2] : LP T (n + 3) 23 5 (frm [(0, .imm 5 R1), (1, .i .i64 a), (5, .sl 0), (13, .imm 5 R3), (14, .i .i64 a3), (15, .i .i64 a4)]) [some (Ent.lst 1 R2)] =
  (run (J2 l a a2 a3) (o, a4)).map (fun (zr : (List Int)) => (XE.exit 0, frm [(5, .sl 0)], [some (Ent.lst 1 (zr.map QU))])) := by
 rcases H1, H2, H3 with ⟨⟨rfl⟩, ⟨rfl⟩, ⟨rfl⟩⟩
 rw [QB]
 simp -dsimp only [↓evA, evB, Qm, Tryz.func23, Tryz.f23, QFr, QvM, TP, TZ, Nat.reduceAdd, Nat.reduceMul, Nat.reduceBEq, Nat.reduceLeDiff, Nat.reduceLT]
 apply Vh o a4
 intro o a4
 simp -dsimp +contextual only [↓evA, eZ, Nat.reduceAdd, Nat.reduceMul, Nat.reduceBEq, Nat.reduceLeDiff, Nat.reduceLT, srt, QcW]
 try simp only [J2, eY]
 all_goals rfl
theorem QfW (a) {R1 l} [H1 : EncL VE R1 l] : CP T (n + 9) 23 [.imm 5 R1, .i .i64 a] = (Z7 l a).map fun r => .own 1 (r.map QU) := by
 obtain ⟨rfl⟩ := H1
 rw [Qg]
 simp -dsimp +contextual only [↓evA, eZ, Nat.reduceAdd, Nat.reduceMul, Nat.reduceBEq, Nat.reduceLeDiff, Nat.reduceLT, Tryz.func23, Tryz.f23, QFr, QvM, srt, QfE, QhR]
 try simp only [Z7, eY]
 all_goals first | rfl | (simp +contextual only [evN] <;> rfl)
theorem Qfm (v a a2) {R1 s} [H1 : EncL QU R1 s] : LP T (n + 1) 142 2 (frm [(0, .imm 1 R1), (1, .i .i64 v), (7, .i .i64 a), (8, .i .i64 a2)]) [] =
  J1 (run (Xy s v a) a2) (fun (zr : Int) => (XE.ret, frm [(4, .i .i64 zr)], [])) (fun (zr : Unit) => (XE.exit 0, frm [], [])) := by
 obtain ⟨rfl⟩ := H1
 rw [QB]
 simp -dsimp only [↓evA, evB, Qm, Tryz.func142, Tryz.f142, QAd, Qpi, TP, TZ, Nat.reduceAdd, Nat.reduceMul, Nat.reduceBEq, Nat.reduceLeDiff, Nat.reduceLT]
 apply Qq a2
 intro a2
 simp -dsimp +contextual only [↓evA, eZ, Nat.reduceAdd, Nat.reduceMul, Nat.reduceBEq, Nat.reduceLeDiff, Nat.reduceLT]
 try simp only [Xy, eY]
 all_goals rfl
theorem Qhg (v) {R1 s} [H1 : EncL QU R1 s] : CP T (n + 2) 142 [.imm 1 R1, .i .i64 v] = (QaR s v).map fun r => .i .i64 r := by
 obtain ⟨rfl⟩ := H1
 rw [Qg]
 simp -dsimp +contextual only [↓evA, eZ, Nat.reduceAdd, Nat.reduceMul, Nat.reduceBEq, Nat.reduceLeDiff, Nat.reduceLT, Tryz.func142, Tryz.f142, QAd, Qpi, Qfm]
 try simp only [QaR, eY]
 all_goals rfl
theorem Qch (v) {R1 s} [H1 : EncL QU R1 s] : CP T (n + 3) 69 [.imm 1 R1, .i .i64 v] = (Xx s v).map fun r => .b r := by
 obtain ⟨rfl⟩ := H1
 rw [Qg]
 simp -dsimp +contextual only [↓evA, eZ, Nat.reduceAdd, Nat.reduceMul, Nat.reduceBEq, Nat.reduceLeDiff, Nat.reduceLT, Tryz.func69, Tryz.f69, QOs, Qzk, Qhg]
 try simp only [Xx, eY]
 all_goals rfl
theorem Qhq (c) {R1 f} [H1 : EncR Vk R1 f] : CP T (n + 1) 98 [.agg R1, .iptr 1 [[.i .i64 c]] 0 0] = (Qa5 f c).map fun r => .b r := by
 obtain ⟨rfl⟩ := H1
 rw [Qg]
 simp -dsimp +contextual only [↓evA, eZ, Nat.reduceAdd, Nat.reduceMul, Nat.reduceBEq, Nat.reduceLeDiff, Nat.reduceLT, Tryz.func98, Tryz.f98, QMS, Qya]
 try simp only [Qa5, eY]
 all_goals rfl
theorem ZP (f a a2) {R1 s} [H1 : EncL Vk R1 s] : LP T (n + 2) 97 2 (frm [(0, .imm 8 R1), (1, .clo 98 [.iptr 1 [[.i .i64 f]] 0 0]), (7, .i .i64 a), (8, .i .i64 a2)]) [] =
  J1 (run (Qs s f a) a2) (fun (zr : Int) => (XE.ret, frm [(4, .i .i64 zr)], [])) (fun (zr : Unit) => (XE.exit 0, frm [], [])) := by
 obtain ⟨rfl⟩ := H1
 rw [QB]
 simp -dsimp only [↓evA, evB, Qm, Tryz.func97, Tryz.f97, QIH, Qws, TP, TZ, Nat.reduceAdd, Nat.reduceMul, Nat.reduceBEq, Nat.reduceLeDiff, Nat.reduceLT]
 apply Qq a2
 intro a2
 simp -dsimp +contextual only [↓evA, eZ, Nat.reduceAdd, Nat.reduceMul, Nat.reduceBEq, Nat.reduceLeDiff, Nat.reduceLT, Qhq]
 try simp only [Qs, eY]
 all_goals rfl
theorem Qaj (c) {R1 s} [H1 : EncL Vk R1 s] : CP T (n + 3) 97 [.imm 8 R1, .clo 98 [.iptr 1 [[.i .i64 c]] 0 0]] = (Q4 s c).map fun r => .i .i64 r := by
 obtain ⟨rfl⟩ := H1
 rw [Qg]
 simp -dsimp +contextual only [↓evA, eZ, Nat.reduceAdd, Nat.reduceMul, Nat.reduceBEq, Nat.reduceLeDiff, Nat.reduceLT, Tryz.func97, Tryz.f97, QIH, Qws, ZP]
 try simp only [Q4, eY]
 all_goals rfl
theorem ZU (i) {R1 l} [H1 : EncL Vk R1 l] : CP T (n + 4) 35 [.imm 8 R1, .i .i64 i] = (VI l i).map fun r => .i .i64 r := by
 obtain ⟨rfl⟩ := H1
 rw [Qg]
 simp -dsimp +contextual only [↓evA, eZ, Nat.reduceAdd, Nat.reduceMul, Nat.reduceBEq, Nat.reduceLeDiff, Nat.reduceLT, Tryz.func35, Tryz.f35, QOR, QzC, Qaj]
 try simp only [VI, eY]
 all_goals rfl
theorem QhV (a4 a5) {R1 a R2 a2 R3 a3} [H1 : EncR QM R1 a] [H2 : EncL QU R2 a2] [H3 : EncL Vk R3 a3] : LP T (n + 5) 64 5 (frm [(1, .ptr 0 0 0), (3, .sl 1), (23, .imm 8 R3), (24, .i .i64 a4), (25, .i .i64 a5)]) [some (Ent.box R1), some (Ent.lst 1 R2)] =
  J1 (run (Xz a a2 a3 a4) a5) (fun (zr : Bool) => (XE.ret, frm [(2, .b zr)], [])) (fun (zr : Unit) => (XE.exit 0, frm [(1, .ptr 0 0 0), (3, .sl 1)], [some (Ent.box (QM a)), some (Ent.lst 1 (a2.map QU))])) := by
 rcases H1, H2, H3 with ⟨⟨rfl⟩, ⟨rfl⟩, ⟨rfl⟩⟩
 rw [QB]
 simp -dsimp only [↓evA, evB, Qm, Tryz.func64, Tryz.f64, Qzw, Qql, TP, TZ, Nat.reduceAdd, Nat.reduceMul, Nat.reduceBEq, Nat.reduceLeDiff, Nat.reduceLT]
 apply Qq a5
 intro a5
 simp -dsimp +contextual (maxSteps := 100000000) only [↓evA, eZ, Nat.reduceAdd, Nat.reduceMul, Nat.reduceBEq, Nat.reduceLeDiff, Nat.reduceLT, QcT, Qch]
 try simp only [Xz, eY]
 all_goals rfl
theorem Qhe (a4 a5) {R1 a R2 a2 R3 a3} [H1 : EncR QM R1 a] [H2 : EncL QU R2 a2] [H3 : EncL Vj R3 a3] : LP T (n + 5) 64 11 (frm [(1, .ptr 0 0 0), (3, .sl 1), (57, .imm 3 R3), (58, .i .i64 a4), (59, .i .i64 a5)]) [some (Ent.box R1), some (Ent.lst 1 R2)] =
  J1 (run (VS a a2 a3 a4) a5) (fun (zr : Bool) => (XE.ret, frm [(2, .b zr)], [])) (fun (zr : Unit) => (XE.exit 2, frm [(1, .ptr 0 0 0), (3, .sl 1)], [some (Ent.box (QM a)), some (Ent.lst 1 (a2.map QU))])) := by
 rcases H1, H2, H3 with ⟨⟨rfl⟩, ⟨rfl⟩, ⟨rfl⟩⟩
 rw [QB]
 simp -dsimp only [↓evA, evB, Qm, Tryz.func64, Tryz.f64, Qzw, Qql, TP, TZ, Nat.reduceAdd, Nat.reduceMul, Nat.reduceBEq, Nat.reduceLeDiff, Nat.reduceLT]
 apply Qq a5
 intro a5
 simp -dsimp +contextual (maxSteps := 100000000) only [↓evA, eZ, Nat.reduceAdd, Nat.reduceMul, Nat.reduceBEq, Nat.reduceLeDiff, Nat.reduceLT, ZU]
 try simp only [VS, eY]
 all_goals rfl
theorem Qhu (a3 a4) {R1 a R2 a2} [H1 : EncR QM R1 a] [H2 : EncL QU R2 a2] : LP T (n + 5) 64 17 (frm [(1, .ptr 0 0 0), (75, .sl 1), (76, .i .i64 a3), (77, .i .i64 a4)]) [some (Ent.box R1), some (Ent.lst 1 R2)] =
  J1 (run (JN a a2 a3) a4) (fun (zr : Bool) => (XE.ret, frm [(2, .b zr)], [])) (fun (zr : Unit) => (XE.exit 4, frm [], [])) := by
 rcases H1, H2 with ⟨⟨rfl⟩, ⟨rfl⟩⟩
 rw [QB]
 simp -dsimp only [↓evA, evB, Qm, Tryz.func64, Tryz.f64, Qzw, Qql, TP, TZ, Nat.reduceAdd, Nat.reduceMul, Nat.reduceBEq, Nat.reduceLeDiff, Nat.reduceLT]
 apply Qq a4
 intro a4
 simp -dsimp +contextual (maxSteps := 100000000) only [↓evA, eZ, Nat.reduceAdd, Nat.reduceMul, Nat.reduceBEq, Nat.reduceLeDiff, Nat.reduceLT, ZU]
 try simp only [JN, eY]
 all_goals rfl
theorem Qk0 {R1 a} [H1 : EncR QM R1 a] : CP T (n + 10) 64 [.agg R1] = (JC a).map fun r => .b r := by
 obtain ⟨rfl⟩ := H1
 rw [Qg]
 simp -dsimp +contextual (maxSteps := 100000000) only [↓evA, eZ, Nat.reduceAdd, Nat.reduceMul, Nat.reduceBEq, Nat.reduceLeDiff, Nat.reduceLT, Tryz.func64, Tryz.f64, Qzw, Qql, QfW, QhV, Qhe, Qhu]
 try simp only [JC, eY]
 all_goals rfl
theorem Qf0 {R1 a} [H1 : EncR XT R1 a] : CP T (n + 2) 137 [.agg R1] = (QaO a).map fun r => .b r := by
 obtain ⟨rfl⟩ := H1
 rw [Qg]
 simp -dsimp +contextual only [↓evA, eZ, Nat.reduceAdd, Nat.reduceMul, Nat.reduceBEq, Nat.reduceLeDiff, Nat.reduceLT, Tryz.func137, Tryz.f137, QHq, QsM, VJ]
 try simp only [QaO, eY]
 all_goals rfl
theorem QiJ (c) {R1 a} [H1 : EncR VF R1 a] : CP T (n + 1) 216 [.agg R1, .iptr 1 [[.i .i64 c]] 0 0] = (Qai a c).map fun r => .b r := by
 obtain ⟨rfl⟩ := H1
 rw [Qg]
 simp -dsimp +contextual only [↓evA, eZ, Nat.reduceAdd, Nat.reduceMul, Nat.reduceBEq, Nat.reduceLeDiff, Nat.reduceLT, Tryz.func216, Tryz.f216, QLp, QsG]
 try simp only [Qai, eY]
 all_goals rfl
theorem Zx (f a a2) {R1 s} [H1 : EncL VF R1 s] : LP T (n + 2) 215 2 (frm [(0, .imm 3 R1), (1, .clo 216 [.iptr 1 [[.i .i64 f]] 0 0]), (7, .i .i64 a), (8, .i .i64 a2)]) [] =
  J1 (run (Qf s f a) a2) (fun (zr : Int) => (XE.ret, frm [(4, .i .i64 zr)], [])) (fun (zr : Unit) => (XE.exit 0, frm [], [])) := by
 obtain ⟨rfl⟩ := H1
 rw [QB]
 simp -dsimp only [↓evA, evB, Qm, Tryz.func215, Tryz.f215, QAL, Qor, TP, TZ, Nat.reduceAdd, Nat.reduceMul, Nat.reduceBEq, Nat.reduceLeDiff, Nat.reduceLT]
 apply Qq a2
 intro a2
 simp -dsimp +contextual only [↓evA, eZ, Nat.reduceAdd, Nat.reduceMul, Nat.reduceBEq, Nat.reduceLeDiff, Nat.reduceLT, QiJ]
 try simp only [Qf, eY]
 all_goals rfl
theorem Qac (c) {R1 s} [H1 : EncL VF R1 s] : CP T (n + 3) 215 [.imm 3 R1, .clo 216 [.iptr 1 [[.i .i64 c]] 0 0]] = (QG s c).map fun r => .i .i64 r := by
 obtain ⟨rfl⟩ := H1
 rw [Qg]
 simp -dsimp +contextual only [↓evA, eZ, Nat.reduceAdd, Nat.reduceMul, Nat.reduceBEq, Nat.reduceLeDiff, Nat.reduceLT, Tryz.func215, Tryz.f215, QAL, Qor, Zx]
 try simp only [QG, eY]
 all_goals rfl
theorem Qj5 (a) {R1 l} [H1 : EncL VF R1 l] : CP T (n + 4) 133 [.imm 3 R1, .i .i64 a] = (JJ l a).map fun r => .i .i64 r := by
 obtain ⟨rfl⟩ := H1
 rw [Qg]
 simp -dsimp +contextual only [↓evA, eZ, Nat.reduceAdd, Nat.reduceMul, Nat.reduceBEq, Nat.reduceLeDiff, Nat.reduceLT, Tryz.func133, Tryz.f133, QHp, Qs0, Qac]
 try simp only [JJ, eY]
 all_goals rfl
theorem Qgw {R1 s} [H1 : EncL Xu R1 s] : CP T (n + 1) 134 [.imm 2 R1] = (VW s).map fun r => .own 2 (r.map Xu) := by
 obtain ⟨rfl⟩ := H1
 rw [Qg]
 simp -dsimp +contextual only [↓evA, eZ, Nat.reduceAdd, Nat.reduceMul, Nat.reduceBEq, Nat.reduceLeDiff, Nat.reduceLT, Tryz.func134, Tryz.f134, QG3, Qsn]
 try simp only [VW, eY]
 all_goals first | rfl | (simp +contextual only [evN] <;> rfl)
theorem QkO (a) {R1 l} [H1 : EncL VF R1 l] : CP T (n + 5) 57 [.imm 3 R1, .i .i64 a] = (QaU l a).map fun r => .own 2 (r.map Xu) := by
 obtain ⟨rfl⟩ := H1
 rw [Qg]
 simp -dsimp +contextual only [↓evA, eZ, Nat.reduceAdd, Nat.reduceMul, Nat.reduceBEq, Nat.reduceLeDiff, Nat.reduceLT, Tryz.func57, Tryz.f57, QOg, Qzx, Qj5, Qgw]
 try simp only [QaU, eY]
 all_goals first | rfl | (simp +contextual only [evN] <;> rfl)
theorem QlP {R1 l} [H1 : EncL Xu R1 l] : CP T (n + 1) 56 [.imm 2 R1] = (Qa0 l).map fun r => .i .i64 r := by
 obtain ⟨rfl⟩ := H1
 rw [Qg]
 simp -dsimp +contextual only [↓evA, eZ, Nat.reduceAdd, Nat.reduceMul, Nat.reduceBEq, Nat.reduceLeDiff, Nat.reduceLT, Tryz.func56, Tryz.f56, QLV, QzG]
 try simp only [Qa0, eY]
 all_goals rfl
theorem Qiw {R1 l R2 a} [H1 : EncL Xu R1 l] [H2 : EncR XT R2 a] : CP T (n + 4) 138 [.imm 2 R1, .agg R2] = (Jw l a).map fun r => .i .i64 r := by
 rcases H1, H2 with ⟨⟨rfl⟩, ⟨rfl⟩⟩
 rw [Qg]
 simp -dsimp +contextual only [↓evA, eZ, Nat.reduceAdd, Nat.reduceMul, Nat.reduceBEq, Nat.reduceLeDiff, Nat.reduceLT, Tryz.func138, Tryz.f138, QIy, Qsv, Qf0, Qfa, QlP]
 try simp only [Jw, eY]
 all_goals rfl
theorem Qme (s) : CP T (n + 1) 139 [.i .i64 s] = (QbK s).map fun r => .i .i64 r := by
 rw [Qg]
 simp -dsimp +contextual only [↓evA, eZ, Nat.reduceAdd, Nat.reduceMul, Nat.reduceBEq, Nat.reduceLeDiff, Nat.reduceLT, Tryz.func139, Tryz.f139, QKY, Qrl]
 try simp only [QbK, eY]
 all_goals rfl
theorem QgJ (a3 a4) {R1 a R2 a2} [H1 : EncR QM R1 a] [H2 : EncL QC R2 a2] : LP T (n + 6) 65 4 (frm [(1, .ptr 0 0 0), (14, .imm 5 R2), (15, .i .i64 a3), (16, .i .i64 a4)]) [some (Ent.box R1)] =
  J1 (run (QO a a2 a3) a4) (fun (zr : Bool) => (XE.ret, frm [(2, .b zr)], [])) (fun (zr : Unit) => (XE.exit 0, frm [], [])) := by
 rcases H1, H2 with ⟨⟨rfl⟩, ⟨rfl⟩⟩
 rw [QB]
 simp -dsimp only [↓evA, evB, Qm, Tryz.func65, Tryz.f65, QFi, Quv, TP, TZ, Nat.reduceAdd, Nat.reduceMul, Nat.reduceBEq, Nat.reduceLeDiff, Nat.reduceLT]
 apply Qq a4
 intro a4
 simp -dsimp +contextual (maxSteps := 100000000) only [↓evA, eZ, Nat.reduceAdd, Nat.reduceMul, Nat.reduceBEq, Nat.reduceLeDiff, Nat.reduceLT, ZU, Qf0, QkO, Qiw, Qme]
 try simp only [QO, eY]
 all_goals rfl
theorem Qjd {R1 a} [H1 : EncR QM R1 a] : CP T (n + 7) 65 [.agg R1] = (VN a).map fun r => .b r := by
 obtain ⟨rfl⟩ := H1
 rw [Qg]
 simp -dsimp +contextual (maxSteps := 100000000) only [↓evA, eZ, Nat.reduceAdd, Nat.reduceMul, Nat.reduceBEq, Nat.reduceLeDiff, Nat.reduceLT, Tryz.func65, Tryz.f65, QFi, Quv, QgJ]
 try simp only [VN, eY]
 all_goals rfl
theorem QiZ (a2 a4 a5) {R1 a R2 a3} [H1 : EncR QM R1 a] [H2 : EncL Vk R2 a3] : LP T (n + 1) 66 3 (frm [(1, .ptr 0 0 0), (3, .i .i64 a2), (13, .imm 8 R2), (14, .i .i64 a4), (15, .i .i64 a5)]) [some (Ent.box R1)] =
  (run (ZE a a3 a4) (a2, a5)).map (fun (zr : Int) => (XE.exit 0, frm [(1, .ptr 0 0 0), (3, .i .i64 zr)], [some (Ent.box (QM a))])) := by
 rcases H1, H2 with ⟨⟨rfl⟩, ⟨rfl⟩⟩
 rw [QB]
 simp -dsimp only [↓evA, evB, Qm, Tryz.func66, Tryz.f66, Qwv, Qog, TP, TZ, Nat.reduceAdd, Nat.reduceMul, Nat.reduceBEq, Nat.reduceLeDiff, Nat.reduceLT]
 apply Vh a2 a5
 intro a2 a5
 simp -dsimp +contextual (maxSteps := 100000000) only [↓evA, eZ, Nat.reduceAdd, Nat.reduceMul, Nat.reduceBEq, Nat.reduceLeDiff, Nat.reduceLT]
 try simp only [ZE, eY]
 all_goals rfl
theorem Qi1 (a2 a4 a5) {R1 a R2 a3} [H1 : EncR QM R1 a] [H2 : EncL QC R2 a3] : LP T (n + 1) 66 8 (frm [(1, .ptr 0 0 0), (3, .i .i64 a2), (25, .imm 5 R2), (26, .i .i64 a4), (27, .i .i64 a5)]) [some (Ent.box R1)] =
  (run (ZG a a3 a4) (a2, a5)).map (fun (zr : Int) => (XE.exit 2, frm [(1, .ptr 0 0 0), (3, .i .i64 zr)], [some (Ent.box (QM a))])) := by
 rcases H1, H2 with ⟨⟨rfl⟩, ⟨rfl⟩⟩
 rw [QB]
 simp -dsimp only [↓evA, evB, Qm, Tryz.func66, Tryz.f66, Qwv, Qog, TP, TZ, Nat.reduceAdd, Nat.reduceMul, Nat.reduceBEq, Nat.reduceLeDiff, Nat.reduceLT]
 apply Vh a2 a5
 intro a2 a5
 simp -dsimp +contextual (maxSteps := 100000000) only [↓evA, eZ, Nat.reduceAdd, Nat.reduceMul, Nat.reduceBEq, Nat.reduceLeDiff, Nat.reduceLT]
 try simp only [ZG, eY]
 all_goals rfl
theorem QhG (a2 a4 a5) {R1 a R2 a3} [H1 : EncR QM R1 a] [H2 : EncL VE R2 a3] : LP T (n + 1) 66 13 (frm [(1, .ptr 0 0 0), (3, .i .i64 a2), (37, .imm 5 R2), (38, .i .i64 a4), (39, .i .i64 a5)]) [some (Ent.box R1)] =
  (run (J5 a a3 a4) (a2, a5)).map (fun (zr : Int) => (XE.exit 4, frm [(1, .ptr 0 0 0), (3, .i .i64 zr)], [some (Ent.box (QM a))])) := by
 rcases H1, H2 with ⟨⟨rfl⟩, ⟨rfl⟩⟩
 rw [QB]
 simp -dsimp only [↓evA, evB, Qm, Tryz.func66, Tryz.f66, Qwv, Qog, TP, TZ, Nat.reduceAdd, Nat.reduceMul, Nat.reduceBEq, Nat.reduceLeDiff, Nat.reduceLT]
 apply Vh a2 a5
 intro a2 a5
 simp -dsimp +contextual (maxSteps := 100000000) only [↓evA, eZ, Nat.reduceAdd, Nat.reduceMul, Nat.reduceBEq, Nat.reduceLeDiff, Nat.reduceLT]
 try simp only [J5, eY]
 all_goals rfl
theorem Qim (a a3 a4) {R1 a2} [H1 : EncL Vw R1 a2] : LP T (n + 1) 66 18 (frm [(3, .i .i64 a), (49, .imm 4 R1), (50, .i .i64 a3), (51, .i .i64 a4)]) [] =
  (run (J6 a2 a3) (a, a4)).map (fun (zr : Int) => (XE.exit 6, frm [(3, .i .i64 zr)], [])) := by
 obtain ⟨rfl⟩ := H1
 rw [QB]
 simp -dsimp only [↓evA, evB, Qm, Tryz.func66, Tryz.f66, Qwv, Qog, TP, TZ, Nat.reduceAdd, Nat.reduceMul, Nat.reduceBEq, Nat.reduceLeDiff, Nat.reduceLT]
 apply Vh a a4
 intro a a4
 simp -dsimp +contextual only [↓evA, eZ, Nat.reduceAdd, Nat.reduceMul, Nat.reduceBEq, Nat.reduceLeDiff, Nat.reduceLT]
 try simp only [J6, eY]
 all_goals rfl
theorem Qmm {R1 a} [H1 : EncR QM R1 a] : CP T (n + 2) 66 [.agg R1] = (QcE a).map fun r => .i .i64 r := by
 obtain ⟨rfl⟩ := H1
 rw [Qg]
 simp -dsimp +contextual (maxSteps := 100000000) only [↓evA, eZ, Nat.reduceAdd, Nat.reduceMul, Nat.reduceBEq, Nat.reduceLeDiff, Nat.reduceLT, Tryz.func66, Tryz.f66, Qwv, Qog, QiZ, Qi1, QhG, Qim]
 try simp only [QcE, eY]
 all_goals rfl
theorem Qfv {R1 a} [H1 : EncR QM R1 a] : CP T (n + 11) 11 [.agg R1] = (QJ a).map fun r => .b r := by
 obtain ⟨rfl⟩ := H1
 rw [Qg]
 simp -dsimp +contextual (maxSteps := 100000000) only [↓evA, eZ, Nat.reduceAdd, Nat.reduceMul, Nat.reduceBEq, Nat.reduceLeDiff, Nat.reduceLT, Tryz.func11, Tryz.f11, QOY, QzA, VJ, Qj1, QhN, Qj2, QiP, QfE, Qcc, Qk0, Qjd, Qmm]
 try simp only [QJ, eY]
 all_goals rfl
theorem Qfp (a3 a4) {R1 a R2 i R3 a2} [H1 : EncR QM R1 a] [H2 : EncL QU R2 i] [H3 : EncL Vk R3 a2] : LP T (n + 5) 12 3 (frm [(1, .ptr 0 0 0), (3, .sl 1), (13, .imm 8 R3), (14, .i .i64 a3), (15, .i .i64 a4)]) [some (Ent.box R1), some (Ent.lst 1 R2)] =
  J1 (run (Xv a i a2 a3) a4) (fun (zr : Bool) => (XE.ret, frm [(2, .b zr)], [])) (fun (zr : Unit) => (XE.exit 0, frm [], [])) := by
 rcases H1, H2, H3 with ⟨⟨rfl⟩, ⟨rfl⟩, ⟨rfl⟩⟩
 rw [QB]
 simp -dsimp only [↓evA, evB, Qm, Tryz.func12, Tryz.f12, QGg, Qxb, TP, TZ, Nat.reduceAdd, Nat.reduceMul, Nat.reduceBEq, Nat.reduceLeDiff, Nat.reduceLT]
 apply Qq a4
 intro a4
 simp -dsimp +contextual (maxSteps := 100000000) only [↓evA, eZ, Nat.reduceAdd, Nat.reduceMul, Nat.reduceBEq, Nat.reduceLeDiff, Nat.reduceLT, QcW, QcT, Qch]
 try simp only [Xv, eY]
 all_goals rfl
theorem Qdj {R1 a} [H1 : EncR QM R1 a] : CP T (n + 10) 12 [.agg R1] = (JL a).map fun r => .b r := by
 obtain ⟨rfl⟩ := H1
 rw [Qg]
 simp -dsimp +contextual (maxSteps := 100000000) only [↓evA, eZ, Nat.reduceAdd, Nat.reduceMul, Nat.reduceBEq, Nat.reduceLeDiff, Nat.reduceLT, Tryz.func12, Tryz.f12, QGg, Qxb, QfW, Qfp]
 try simp only [JL, eY]
 all_goals rfl
theorem Qh3 {R1 c R2 c2} [H1 : EncR QC R1 c] [H2 : EncR VE R2 c2] : CP T (n + 1) 143 [.agg R1, .iptr 5 [R2] 0 0] = (Qbt c c2).map fun r => .b r := by
 rcases H1, H2 with ⟨⟨rfl⟩, ⟨rfl⟩⟩
 rw [Qg]
 simp -dsimp +contextual only [↓evA, eZ, Nat.reduceAdd, Nat.reduceMul, Nat.reduceBEq, Nat.reduceLeDiff, Nat.reduceLT, Tryz.func143, Tryz.f143, QJJ, QsJ]
 try simp only [Qbt, eY]
 all_goals rfl
theorem ZM (a a2) {R1 s R2 f} [H1 : EncL QC R1 s] [H2 : EncR VE R2 f] : LP T (n + 2) 213 2 (frm [(0, .imm 5 R1), (1, .clo 143 [.iptr 5 [R2] 0 0]), (7, .i .i64 a), (8, .i .i64 a2)]) [] =
  J1 (run (Qr s f a) a2) (fun (zr : Int) => (XE.ret, frm [(4, .i .i64 zr)], [])) (fun (zr : Unit) => (XE.exit 0, frm [], [])) := by
 rcases H1, H2 with ⟨⟨rfl⟩, ⟨rfl⟩⟩
 rw [QB]
 simp -dsimp only [↓evA, evB, Qm, Tryz.func213, Tryz.f213, QAn, QoN, TP, TZ, Nat.reduceAdd, Nat.reduceMul, Nat.reduceBEq, Nat.reduceLeDiff, Nat.reduceLT]
 apply Qq a2
 intro a2
 simp -dsimp +contextual only [↓evA, eZ, Nat.reduceAdd, Nat.reduceMul, Nat.reduceBEq, Nat.reduceLeDiff, Nat.reduceLT, Qh3]
 try simp only [Qr, eY]
 all_goals rfl
theorem Qah {R1 s R2 c} [H1 : EncL QC R1 s] [H2 : EncR VE R2 c] : CP T (n + 3) 213 [.imm 5 R1, .clo 143 [.iptr 5 [R2] 0 0]] = (Q5 s c).map fun r => .i .i64 r := by
 rcases H1, H2 with ⟨⟨rfl⟩, ⟨rfl⟩⟩
 rw [Qg]
 simp -dsimp +contextual only [↓evA, eZ, Nat.reduceAdd, Nat.reduceMul, Nat.reduceBEq, Nat.reduceLeDiff, Nat.reduceLT, Tryz.func213, Tryz.f213, QAn, QoN, ZM]
 try simp only [Q5, eY]
 all_goals rfl
theorem ZO {R1 s R2 c} [H1 : EncL QC R1 s] [H2 : EncR VE R2 c] : CP T (n + 4) 130 [.imm 5 R1, .clo 143 [.iptr 5 [R2] 0 0]] = (QA s c).map fun r => .b r := by
 rcases H1, H2 with ⟨⟨rfl⟩, ⟨rfl⟩⟩
 rw [Qg]
 simp -dsimp +contextual only [↓evA, eZ, Nat.reduceAdd, Nat.reduceMul, Nat.reduceBEq, Nat.reduceLeDiff, Nat.reduceLT, Tryz.func130, Tryz.f130, QGY, QrS, Qah]
 try simp only [QA, eY]
 all_goals rfl
theorem Qfb {R1 a R2 a2} [H1 : EncR QM R1 a] [H2 : EncR VE R2 a2] : CP T (n + 5) 70 [.agg R1, .agg R2] = (Qau a a2).map fun r => .b r := by
 rcases H1, H2 with ⟨⟨rfl⟩, ⟨rfl⟩⟩
 rw [Qg]
 simp -dsimp +contextual (maxSteps := 100000000) only [↓evA, eZ, Nat.reduceAdd, Nat.reduceMul, Nat.reduceBEq, Nat.reduceLeDiff, Nat.reduceLT, Tryz.func70, Tryz.f70, QOW, QzM, ZO]
 try simp only [Qau, eY]
 all_goals rfl
theorem QgE (a3 a4) {R1 a R2 a2} [H1 : EncR QM R1 a] [H2 : EncL VE R2 a2] : LP T (n + 6) 13 2 (frm [(1, .ptr 0 0 0), (7, .imm 5 R2), (8, .i .i64 a3), (9, .i .i64 a4)]) [some (Ent.box R1)] =
  J1 (run (Jh a a2 a3) a4) (fun (zr : Bool) => (XE.ret, frm [(2, .b zr)], [])) (fun (zr : Unit) => (XE.exit 0, frm [], [])) := by
 rcases H1, H2 with ⟨⟨rfl⟩, ⟨rfl⟩⟩
 rw [QB]
 simp -dsimp only [↓evA, evB, Qm, Tryz.func13, Tryz.f13, QFO, Qxa, TP, TZ, Nat.reduceAdd, Nat.reduceMul, Nat.reduceBEq, Nat.reduceLeDiff, Nat.reduceLT]
 apply Qq a4
 intro a4
 simp -dsimp +contextual (maxSteps := 100000000) only [↓evA, eZ, Nat.reduceAdd, Nat.reduceMul, Nat.reduceBEq, Nat.reduceLeDiff, Nat.reduceLT, Qfb, ZU]
 try simp only [Jh, eY]
 all_goals rfl
theorem QeC {R1 a} [H1 : EncR QM R1 a] : CP T (n + 7) 13 [.agg R1] = (ZD a).map fun r => .b r := by
 obtain ⟨rfl⟩ := H1
 rw [Qg]
 simp -dsimp +contextual (maxSteps := 100000000) only [↓evA, eZ, Nat.reduceAdd, Nat.reduceMul, Nat.reduceBEq, Nat.reduceLeDiff, Nat.reduceLT, Tryz.func13, Tryz.f13, QFO, Qxa, QgE]
 try simp only [ZD, eY]
 all_goals rfl
theorem QjZ (k) : CP T (n + 1) 218 [.i .i64 k] = (Qbg k).map fun r => .i .i64 r := by
 rw [Qg]
 simp -dsimp +contextual only [↓evA, eZ, Nat.reduceAdd, Nat.reduceMul, Nat.reduceBEq, Nat.reduceLeDiff, Nat.reduceLT, Tryz.func218, Tryz.f218, QJi, Qso]
 try simp only [Qbg, eY]
 all_goals rfl
theorem QlQ {R1 f} [H1 : EncR Vk R1 f] : CP T (n + 4) 144 [.agg R1] = (QbT f).map fun r => .i .i64 r := by
 obtain ⟨rfl⟩ := H1
 rw [Qg]
 simp -dsimp +contextual only [↓evA, eZ, Nat.reduceAdd, Nat.reduceMul, Nat.reduceBEq, Nat.reduceLeDiff, Nat.reduceLT, Tryz.func144, Tryz.f144, QFz, Qsm, Qd0, QjZ]
 try simp only [QbT, eY]
 all_goals rfl
theorem QnZ (a) {R1 f} [H1 : EncR Vk R1 f] : CP T (n + 5) 71 [.agg R1, .i .i64 a] = (Qab f a).map fun r => .b r := by
 obtain ⟨rfl⟩ := H1
 rw [Qg]
 simp -dsimp +contextual only [↓evA, eZ, Nat.reduceAdd, Nat.reduceMul, Nat.reduceBEq, Nat.reduceLeDiff, Nat.reduceLT, Tryz.func71, Tryz.f71, QNE, Qxy, Qd0, QlQ]
 try simp only [Qab, eY]
 all_goals rfl
theorem QeP (a3 a4) {R1 a R2 a2} [H1 : EncR QM R1 a] [H2 : EncL VE R2 a2] : LP T (n + 6) 14 2 (frm [(1, .ptr 0 0 0), (7, .imm 5 R2), (8, .i .i64 a3), (9, .i .i64 a4)]) [some (Ent.box R1)] =
  J1 (run (Xi a a2 a3) a4) (fun (zr : Bool) => (XE.ret, frm [(2, .b zr)], [])) (fun (zr : Unit) => (XE.exit 0, frm [], [])) := by
 rcases H1, H2 with ⟨⟨rfl⟩, ⟨rfl⟩⟩
 rw [QB]
 simp -dsimp only [↓evA, evB, Qm, Tryz.func14, Tryz.f14, QFV, QvT, TP, TZ, Nat.reduceAdd, Nat.reduceMul, Nat.reduceBEq, Nat.reduceLeDiff, Nat.reduceLT]
 apply Qq a4
 intro a4
 simp -dsimp +contextual (maxSteps := 100000000) only [↓evA, eZ, Nat.reduceAdd, Nat.reduceMul, Nat.reduceBEq, Nat.reduceLeDiff, Nat.reduceLT, Qfb, ZU, QnZ]
 try simp only [Xi, eY]
 all_goals rfl
theorem QcZ {R1 a} [H1 : EncR QM R1 a] : CP T (n + 7) 14 [.agg R1] = (Jd a).map fun r => .b r := by
 obtain ⟨rfl⟩ := H1
 rw [Qg]
 simp -dsimp +contextual (maxSteps := 100000000) only [↓evA, eZ, Nat.reduceAdd, Nat.reduceMul, Nat.reduceBEq, Nat.reduceLeDiff, Nat.reduceLT, Tryz.func14, Tryz.f14, QFV, QvT, QeP]
 try simp only [Jd, eY]
 all_goals rfl
theorem QeL (s2 a2 a3) {R1 s R2 a} [H1 : EncL QdU R1 s] [H2 : EncL QdU R2 a] : LP T (n + 1) 219 3 (frm [(0, .imm 1 R1), (3, .i .i64 s2), (9, .imm 1 R2), (10, .i .i64 a2), (11, .i .i64 a3)]) [] =
  (run (Va s a a2) (s2, a3)).map (fun (zr : Int) => (XE.exit 0, frm [(0, .imm 1 (s.map QdU)), (3, .i .i64 zr)], [])) := by
 rcases H1, H2 with ⟨⟨rfl⟩, ⟨rfl⟩⟩
 rw [QB]
 simp -dsimp only [↓evA, evB, Qm, Tryz.func219, Tryz.f219, QuI, QmR, TP, TZ, Nat.reduceAdd, Nat.reduceMul, Nat.reduceBEq, Nat.reduceLeDiff, Nat.reduceLT]
 apply Vh s2 a3
 intro s2 a3
 simp -dsimp +contextual only [↓evA, eZ, Nat.reduceAdd, Nat.reduceMul, Nat.reduceBEq, Nat.reduceLeDiff, Nat.reduceLT]
 try simp only [Va, eY]
 all_goals rfl
theorem QeB (a3 a4) {R1 a R2 a2} [H1 : EncL QU R1 a] [H2 : EncL QdU R2 a2] : LP T (n + 1) 219 11 (frm [(6, .sl 0), (25, .imm 1 R2), (26, .i .i64 a3), (27, .i .i64 a4)]) [some (Ent.lst 1 R1)] =
  (run (Vx a2 a3) (a, a4)).map (fun (zr : (List Int)) => (XE.exit 2, frm [(6, .sl 0)], [some (Ent.lst 1 (zr.map QU))])) := by
 rcases H1, H2 with ⟨⟨rfl⟩, ⟨rfl⟩⟩
 rw [QB]
 simp -dsimp only [↓evA, evB, Qm, Tryz.func219, Tryz.f219, QuI, QmR, TP, TZ, Nat.reduceAdd, Nat.reduceMul, Nat.reduceBEq, Nat.reduceLeDiff, Nat.reduceLT]
 apply Vh a a4
 intro a a4
 simp -dsimp +contextual only [↓evA, eZ, Nat.reduceAdd, Nat.reduceMul, Nat.reduceBEq, Nat.reduceLeDiff, Nat.reduceLT]
 try simp only [Vx, eY]
 all_goals rfl
theorem Qgu {R1 s} [H1 : EncL QdU R1 s] : CP T (n + 2) 219 [.imm 1 R1] = (Ze s).map fun r => .own 1 (r.map QU) := by
 obtain ⟨rfl⟩ := H1
 rw [Qg]
 simp -dsimp +contextual only [↓evA, eZ, Nat.reduceAdd, Nat.reduceMul, Nat.reduceBEq, Nat.reduceLeDiff, Nat.reduceLT, Tryz.func219, Tryz.f219, QuI, QmR, QhD, QeL, QeB]
 try simp only [Ze, eY]
 all_goals first | rfl | (simp +contextual only [evN] <;> rfl)
end Go.Proofs.YtkbilciipmijjaaGreat
