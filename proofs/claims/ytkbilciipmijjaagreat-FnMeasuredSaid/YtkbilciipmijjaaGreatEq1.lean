import Derived.Test.YtkbilciipmijjaaGreatEc
namespace Go.Proofs.YtkbilciipmijjaaGreat
open Go Go.Proofs Go.Proofs.YtkbilciipmijjaaGreat.Am
set_option maxHeartbeats 4000000
set_option linter.unusedVariables false
set_option linter.unusedSimpArgs false
set_option linter.defProp false
set_option maxRecDepth 100000
variable (n : Nat)
theorem Qqc {R1 c} [H1 : EncL QaD R1 c] : CP T (n + 1) 8 [.imm 1 R1] = (Qip c).map fun r => .b r := by
 obtain ⟨rfl⟩ := H1
 rw [Qi]
 simp -dsimp +contextual only [↓evA, eZ, Nat.reduceAdd, Nat.reduceMul, Nat.reduceBEq, Nat.reduceLeDiff, Nat.reduceLT, Tryz.func8, Tryz.f8, Aa8, An8]
 try simp only [Qip, eY]
 all_goals rfl
theorem QjF (a i) {R1 c} [H1 : EncL QaD R1 c] : LP T (n + 1) 74 3 (frm [(0, .imm 1 R1), (3, .i .i64 a), (4, .i .i64 i)]) [] =
  (run (JK c) (a, i)).map (fun (zr : Int) => (XE.exit 0, frm [(0, .imm 1 (c.map QaD)), (3, .i .i64 zr)], [])) := by
 obtain ⟨rfl⟩ := H1
 rw [QA]
 simp -dsimp only [↓evA, evB, Qm, Tryz.func74, Tryz.f74, QI8, Qt0, TP, TZ, Nat.reduceAdd, Nat.reduceMul, Nat.reduceBEq, Nat.reduceLeDiff, Nat.reduceLT]
 apply Vg a i
 intro a i
 simp -dsimp +contextual only [↓evA, eZ, Nat.reduceAdd, Nat.reduceMul, Nat.reduceBEq, Nat.reduceLeDiff, Nat.reduceLT]
 try simp only [JK, eY]
 all_goals rfl
theorem QeD {R1 c} [H1 : EncL QaD R1 c] : CA T (n + 2) 74 [] [.imm 1 R1] = (Qbm c).map fun r => (.ptr 0 0 0, [some (Ent.box (QM r))]) := by
 obtain ⟨rfl⟩ := H1
 rw [QbA]
 simp -dsimp +contextual (maxSteps := 100000000) only [↓evA, eZ, Nat.reduceAdd, Nat.reduceMul, Nat.reduceBEq, Nat.reduceLeDiff, Nat.reduceLT, Tryz.func74, Tryz.f74, QI8, Qt0, QjF]
 try simp only [Qbm, eY]
 all_goals rfl
theorem QlI {R1 c} [H1 : EncR QM R1 c] : CA T (n + 1) 158 [some (Ent.box R1)] [.ptr 0 0 0] = (ZS c).map fun r => (.i .i64 r.2, [some (Ent.box (QM r.1))]) := by
 obtain ⟨rfl⟩ := H1
 rw [QbA]
 simp -dsimp +contextual (maxSteps := 100000000) only [↓evA, eZ, Nat.reduceAdd, Nat.reduceMul, Nat.reduceBEq, Nat.reduceLeDiff, Nat.reduceLT, Tryz.func158, Tryz.f158, QIw, Qsg]
 try simp only [ZS, eY]
 all_goals rfl
theorem QS (a) {R1 c} [H1 : EncR QM R1 c] : CA T (n + 2) 84 [some (Ent.box R1)] [.ptr 0 0 0, .i .i64 a] = (Qe c a).map fun r => (.i .i64 r.2, [some (Ent.box (QM r.1))]) := by
 obtain ⟨rfl⟩ := H1
 rw [QbA]
 simp -dsimp +contextual (maxSteps := 100000000) only [↓evA, eZ, Nat.reduceAdd, Nat.reduceMul, Nat.reduceBEq, Nat.reduceLeDiff, Nat.reduceLT, Tryz.func84, Tryz.f84, QPE, Qxd, srt, QlI]
 try simp only [Qe, eY]
 all_goals rfl
theorem QgF (i) {R1 c} [H1 : EncR QM R1 c] : CA T (n + 3) 222 [some (Ent.box R1)] [.ptr 0 0 0, .i .i64 i] = (Qbv c i).map fun r => (.agg (QcC r.2), [some (Ent.box (QM r.1))]) := by
 obtain ⟨rfl⟩ := H1
 rw [QbA]
 simp -dsimp +contextual (maxSteps := 100000000) only [↓evA, eZ, Nat.reduceAdd, Nat.reduceMul, Nat.reduceBEq, Nat.reduceLeDiff, Nat.reduceLT, Tryz.func222, Tryz.f222, QHQ, QsS, srt, QS]
 try simp only [Qbv, eY]
 all_goals rfl
theorem Qgu (i) {R1 c} [H1 : EncR QM R1 c] : CA T (n + 4) 248 [some (Ent.box R1)] [.ptr 0 0 0, .i .i64 i] = (Qbw c i).map fun r => (.agg (QE r.2), [some (Ent.box (QM r.1))]) := by
 obtain ⟨rfl⟩ := H1
 rw [QbA]
 simp -dsimp +contextual (maxSteps := 100000000) only [↓evA, eZ, Nat.reduceAdd, Nat.reduceMul, Nat.reduceBEq, Nat.reduceLeDiff, Nat.reduceLT, Tryz.func248, Tryz.f248, QE6, QrZ, srt, QgF, QS]
 try simp only [Qbw, eY]
 all_goals rfl
theorem Qir (i) {R1 c R2 l} [H1 : EncR QM R1 c] [H2 : EncL QE R2 l] : LP T (n + 5) 235 3 (frm [(0, .ptr 0 0 0), (3, .sl 1), (4, .i .i64 i)]) [some (Ent.box R1), some (Ent.lst 8 R2)] =
  (run Zz (c, l, i)).map (fun (zr : l1Cur × (List Find)) => (XE.exit 0, frm [(0, .ptr 0 0 0), (3, .sl 1)], [some (Ent.box (QM zr.1)), some (Ent.lst 8 (zr.2.map QE))])) := by
 rcases H1, H2 with ⟨⟨rfl⟩, ⟨rfl⟩⟩
 rw [QA]
 simp -dsimp only [↓evA, evB, Qm, Tryz.func235, Tryz.f235, Qz0, QnV, TP, TZ, Nat.reduceAdd, Nat.reduceMul, Nat.reduceBEq, Nat.reduceLeDiff, Nat.reduceLT]
 apply Qcr c l i
 intro c l i
 simp -dsimp +contextual only [↓evA, eZ, Nat.reduceAdd, Nat.reduceMul, Nat.reduceBEq, Nat.reduceLeDiff, Nat.reduceLT, srt, QS, Qgu]
 try simp only [Zz, eY]
 all_goals rfl
theorem Ql1 {R1 c} [H1 : EncR QM R1 c] : CA T (n + 6) 235 [some (Ent.box R1)] [.ptr 0 0 0] = (Qcv c).map fun r => (.sl 1, [some (Ent.box (QM r.1)), some (Ent.lst 8 (r.2.map QE))]) := by
 obtain ⟨rfl⟩ := H1
 rw [QbA]
 simp -dsimp +contextual (maxSteps := 100000000) only [↓evA, eZ, Nat.reduceAdd, Nat.reduceMul, Nat.reduceBEq, Nat.reduceLeDiff, Nat.reduceLT, Tryz.func235, Tryz.f235, Qz0, QnV, srt, Qir]
 try simp only [Qcv, eY]
 all_goals rfl
theorem Jk {R1 c R2 l} [H1 : EncR QM R1 c] [H2 : EncL Vm R2 l] : CA T (n + 3) 75 [some (Ent.box R1), some (Ent.lst 1 R2)] [.ptr 0 0 0, .sl 1] = (QO c l).map fun r => (.i .i64 r.2, [some (Ent.box (QM r.1)), some (Ent.lst 1 (l.map Vm))]) := by
 rcases H1, H2 with ⟨⟨rfl⟩, ⟨rfl⟩⟩
 rw [QbA]
 simp -dsimp +contextual (maxSteps := 100000000) only [↓evA, eZ, Nat.reduceAdd, Nat.reduceMul, Nat.reduceBEq, Nat.reduceLeDiff, Nat.reduceLT, Tryz.func75, Tryz.f75, QPf, QyN, srt, QS]
 try simp only [QO, eY]
 all_goals rfl
theorem Qel {R1 c} [H1 : EncR QM R1 c] : CA T (n + 4) 149 [some (Ent.box R1)] [.ptr 0 0 0] = (Qbp c).map fun r => (.i .i64 r.2, [some (Ent.box (QM r.1))]) := by
 obtain ⟨rfl⟩ := H1
 rw [QbA]
 simp -dsimp +contextual (maxSteps := 100000000) only [↓evA, eZ, Nat.reduceAdd, Nat.reduceMul, Nat.reduceBEq, Nat.reduceLeDiff, Nat.reduceLT, Tryz.func149, Tryz.f149, QGs, Qsm, srt, Jk]
 try simp only [Qbp, eY]
 all_goals rfl
theorem Qnk {R1 c} [H1 : EncR QM R1 c] : CA T (n + 5) 236 [some (Ent.box R1)] [.ptr 0 0 0] = (Qc1 c).map fun r => (.agg (QcC r.2), [some (Ent.box (QM r.1))]) := by
 obtain ⟨rfl⟩ := H1
 rw [QbA]
 simp -dsimp +contextual (maxSteps := 100000000) only [↓evA, eZ, Nat.reduceAdd, Nat.reduceMul, Nat.reduceBEq, Nat.reduceLeDiff, Nat.reduceLT, Tryz.func236, Tryz.f236, QIm, QrH, srt, QS, QgF, Jk, Qel]
 try simp only [Qc1, eY]
 all_goals rfl
theorem QnA {R1 c} [H1 : EncR QM R1 c] : CA T (n + 7) 153 [some (Ent.box R1)] [.ptr 0 0 0] = (Qc7 c).map fun r => (.sl 1, [some (Ent.box (QM r.1)), some (Ent.lst 8 (r.2.map QE))]) := by
 obtain ⟨rfl⟩ := H1
 rw [QbA]
 simp -dsimp +contextual (maxSteps := 100000000) only [↓evA, eZ, Nat.reduceAdd, Nat.reduceMul, Nat.reduceBEq, Nat.reduceLeDiff, Nat.reduceLT, Tryz.func153, Tryz.f153, QGM, Qsd, srt, Ql1, QS, Qnk, Jk, Qel]
 try simp only [Qc7, eY]
 all_goals rfl
theorem Qge {R1 c} [H1 : EncL QaD R1 c] : CP T (n + 8) 94 [.imm 1 R1] = (Qar c).map fun r => .own 8 (r.map QE) := by
 obtain ⟨rfl⟩ := H1
 rw [Qi]
 simp -dsimp +contextual only [↓evA, eZ, Nat.reduceAdd, Nat.reduceMul, Nat.reduceBEq, Nat.reduceLeDiff, Nat.reduceLT, Tryz.func94, Tryz.f94, QOc, QxL, srt, QeD, QnA]
 try simp only [Qar, eY]
 all_goals first | rfl | (simp +contextual only [evN] <;> rfl)
theorem Qd2 {R1 c} [H1 : EncL QaD R1 c] : CP T (n + 9) 28 [.imm 1 R1] = (XI c).map fun r => .own 8 (r.map QE) := by
 obtain ⟨rfl⟩ := H1
 rw [Qi]
 simp -dsimp +contextual only [↓evA, eZ, Nat.reduceAdd, Nat.reduceMul, Nat.reduceBEq, Nat.reduceLeDiff, Nat.reduceLT, Tryz.func28, Tryz.f28, QOI, Qzb, Qge]
 try simp only [XI, eY]
 all_goals first | rfl | (simp +contextual only [evN] <;> rfl)
theorem Qf7 (k a a3 a4) {R1 a2} [H1 : EncL QE R1 a2] : LP T (n + 1) 29 3 (frm [(1, .i .i64 k), (5, .i .i64 a), (8, .imm 8 R1), (9, .i .i64 a3), (10, .i .i64 a4)]) [] =
  (run (Zh k a2 a3) (a, a4)).map (fun (zr : Int) => (XE.exit 0, frm [(5, .i .i64 zr)], [])) := by
 obtain ⟨rfl⟩ := H1
 rw [QA]
 simp -dsimp only [↓evA, evB, Qm, Tryz.func29, Tryz.f29, QKM, Qt3, TP, TZ, Nat.reduceAdd, Nat.reduceMul, Nat.reduceBEq, Nat.reduceLeDiff, Nat.reduceLT]
 apply Vg a a4
 intro a a4
 simp -dsimp +contextual only [↓evA, eZ, Nat.reduceAdd, Nat.reduceMul, Nat.reduceBEq, Nat.reduceLeDiff, Nat.reduceLT]
 try simp only [Zh, eY]
 all_goals rfl
theorem Qjb (k) {R1 l} [H1 : EncL QE R1 l] : CP T (n + 2) 29 [.imm 8 R1, .i .i64 k] = (Qay l k).map fun r => .i .i64 r := by
 obtain ⟨rfl⟩ := H1
 rw [Qi]
 simp -dsimp +contextual only [↓evA, eZ, Nat.reduceAdd, Nat.reduceMul, Nat.reduceBEq, Nat.reduceLeDiff, Nat.reduceLT, Tryz.func29, Tryz.f29, QKM, Qt3, Qf7]
 try simp only [Qay, eY]
 all_goals rfl
theorem VD (a l a2) : CP T (n + 1) 59 [.i .i64 a, .i .i64 l, .i .i64 a2] = (Qb a l a2).map fun r => .b r := by
 rw [Qi]
 simp -dsimp +contextual only [↓evA, eZ, Nat.reduceAdd, Nat.reduceMul, Nat.reduceBEq, Nat.reduceLeDiff, Nat.reduceLT, Tryz.func59, Tryz.f59, QLU, Qyy]
 try simp only [Qb, eY]
 all_goals rfl
theorem Qkn {R1 a} [H1 : EncR QcC R1 a] : CP T (n + 2) 165 [.agg R1] = (Zg a).map fun r => .b r := by
 obtain ⟨rfl⟩ := H1
 rw [Qi]
 simp -dsimp +contextual only [↓evA, eZ, Nat.reduceAdd, Nat.reduceMul, Nat.reduceBEq, Nat.reduceLeDiff, Nat.reduceLT, Tryz.func165, Tryz.f165, QHl, Qrl, VD]
 try simp only [Zg, eY]
 all_goals rfl
theorem QlT {R1 f} [H1 : EncR QE R1 f] : CP T (n + 3) 95 [.agg R1] = (ZQ f).map fun r => .b r := by
 obtain ⟨rfl⟩ := H1
 rw [Qi]
 simp -dsimp +contextual only [↓evA, eZ, Nat.reduceAdd, Nat.reduceMul, Nat.reduceBEq, Nat.reduceLeDiff, Nat.reduceLT, Tryz.func95, Tryz.f95, QMy, Qxy, Qkn, VD]
 try simp only [ZQ, eY]
 all_goals rfl
theorem QgX (a2 a3) {R1 l R2 a} [H1 : EncL QE R1 l] [H2 : EncL QE R2 a] : LP T (n + 4) 31 4 (frm [(0, .imm 8 R1), (8, .imm 8 R2), (9, .i .i64 a2), (10, .i .i64 a3)]) [] =
  Zs (run (JT l a a2) a3) (fun (zr : Bool) => (XE.ret, frm [(2, .b zr)], [])) (fun (zr : Unit) => (XE.exit 0, frm [], [])) := by
 rcases H1, H2 with ⟨⟨rfl⟩, ⟨rfl⟩⟩
 rw [QA]
 simp -dsimp only [↓evA, evB, Qm, Tryz.func31, Tryz.f31, QGK, Qvs, TP, TZ, Nat.reduceAdd, Nat.reduceMul, Nat.reduceBEq, Nat.reduceLeDiff, Nat.reduceLT]
 apply Qu a3
 intro a3
 simp -dsimp +contextual only [↓evA, eZ, Nat.reduceAdd, Nat.reduceMul, Nat.reduceBEq, Nat.reduceLeDiff, Nat.reduceLT, QlT]
 try simp only [JT, eY]
 all_goals rfl
theorem Qbi {R1 l} [H1 : EncL QE R1 l] : CP T (n + 5) 31 [.imm 8 R1] = (VZ l).map fun r => .b r := by
 obtain ⟨rfl⟩ := H1
 rw [Qi]
 simp -dsimp +contextual only [↓evA, eZ, Nat.reduceAdd, Nat.reduceMul, Nat.reduceBEq, Nat.reduceLeDiff, Nat.reduceLT, Tryz.func31, Tryz.f31, QGK, Qvs, QgX]
 try simp only [VZ, eY]
 all_goals rfl
theorem Qia (p a2 a3) {R1 o R2 a} [H1 : EncL Vm R1 o] [H2 : EncL QE R2 a] : LP T (n + 1) 33 3 (frm [(1, .i .i64 p), (5, .sl 0), (9, .imm 8 R2), (10, .i .i64 a2), (11, .i .i64 a3)]) [some (Ent.lst 1 R1)] =
  (run (Zc p a a2) (o, a3)).map (fun (zr : (List Int)) => (XE.exit 0, frm [(5, .sl 0)], [some (Ent.lst 1 (zr.map Vm))])) := by
 rcases H1, H2 with ⟨⟨rfl⟩, ⟨rfl⟩⟩
 rw [QA]
 simp -dsimp only [↓evA, evB, Qm, Tryz.func33, Tryz.f33, QIS, Qvq, TP, TZ, Nat.reduceAdd, Nat.reduceMul, Nat.reduceBEq, Nat.reduceLeDiff, Nat.reduceLT]
 apply Vg o a3
 intro o a3
 simp -dsimp +contextual only [↓evA, eZ, Nat.reduceAdd, Nat.reduceMul, Nat.reduceBEq, Nat.reduceLeDiff, Nat.reduceLT]
 try simp only [Zc, eY]
 all_goals rfl
theorem Qfc (p) {R1 l} [H1 : EncL QE R1 l] : CP T (n + 2) 33 [.imm 8 R1, .i .i64 p] = (Z0 l p).map fun r => .own 1 (r.map Vm) := by
 obtain ⟨rfl⟩ := H1
 rw [Qi]
 simp -dsimp +contextual only [↓evA, eZ, Nat.reduceAdd, Nat.reduceMul, Nat.reduceBEq, Nat.reduceLeDiff, Nat.reduceLT, Tryz.func33, Tryz.f33, QIS, Qvq, Qia]
 try simp only [Z0, eY]
 all_goals first | rfl | (simp +contextual only [evN] <;> rfl)
theorem Qeu (b m p) {R1 l} [H1 : EncL QE R1 l] : LP T (n + 3) 30 5 (frm [(0, .imm 8 R1), (3, .i .i64 b), (4, .i .i64 m), (5, .i .i64 p)]) [] =
  (run (VC l) (b, m, p)).map (fun (zr : Int) => (XE.exit 0, frm [(3, .i .i64 zr)], [])) := by
 obtain ⟨rfl⟩ := H1
 rw [QA]
 simp -dsimp only [↓evA, evB, Qm, Tryz.func30, Tryz.f30, QHc, Qwv, TP, TZ, Nat.reduceAdd, Nat.reduceMul, Nat.reduceBEq, Nat.reduceLeDiff, Nat.reduceLT]
 apply Qcr b m p
 intro b m p
 simp -dsimp +contextual only [↓evA, eZ, Nat.reduceAdd, Nat.reduceMul, Nat.reduceBEq, Nat.reduceLeDiff, Nat.reduceLT, Qfc]
 try simp only [VC, eY]
 all_goals rfl
theorem Qga {R1 l} [H1 : EncL QE R1 l] : CP T (n + 6) 30 [.imm 8 R1] = (Qan l).map fun r => .i .i64 r := by
 obtain ⟨rfl⟩ := H1
 rw [Qi]
 simp -dsimp +contextual only [↓evA, eZ, Nat.reduceAdd, Nat.reduceMul, Nat.reduceBEq, Nat.reduceLeDiff, Nat.reduceLT, Tryz.func30, Tryz.f30, QHc, Qwv, Qbi, Qeu]
 try simp only [Qan, eY]
 all_goals rfl
theorem Ve (a l m) : CP T (n + 1) 113 [.i .i64 a, .i .i64 l, .i .i64 m] = (Qc a l m).map fun r => .b r := by
 rw [Qi]
 simp -dsimp +contextual only [↓evA, eZ, Nat.reduceAdd, Nat.reduceMul, Nat.reduceBEq, Nat.reduceLeDiff, Nat.reduceLT, Tryz.func113, Tryz.f113, QIA, Qq8]
 try simp only [Qc, eY]
 all_goals rfl
theorem Qc3 {R1 a} [H1 : EncR QcC R1 a] : CP T (n + 2) 166 [.agg R1] = (V3 a).map fun r => .b r := by
 obtain ⟨rfl⟩ := H1
 rw [Qi]
 simp -dsimp +contextual only [↓evA, eZ, Nat.reduceAdd, Nat.reduceMul, Nat.reduceBEq, Nat.reduceLeDiff, Nat.reduceLT, Tryz.func166, Tryz.f166, QEG, QrM, Ve]
 try simp only [V3, eY]
 all_goals rfl
theorem QdM {R1 f} [H1 : EncR QE R1 f] : CP T (n + 3) 96 [.agg R1] = (Xd f).map fun r => .b r := by
 obtain ⟨rfl⟩ := H1
 rw [Qi]
 simp -dsimp +contextual only [↓evA, eZ, Nat.reduceAdd, Nat.reduceMul, Nat.reduceBEq, Nat.reduceLeDiff, Nat.reduceLT, Tryz.func96, Tryz.f96, QNO, QyD, Qc3, Ve]
 try simp only [Xd, eY]
 all_goals rfl
theorem QgY (i) {R1 l} [H1 : EncL QE R1 l] : LP T (n + 4) 32 2 (frm [(0, .imm 8 R1), (3, .i .i64 i)]) [] =
  Zs (run (Qv l) i) (fun (zr : Bool) => (XE.ret, frm [(2, .b zr)], [])) (fun (zr : Unit) => (XE.exit 0, frm [(0, .imm 8 (l.map QE))], [])) := by
 obtain ⟨rfl⟩ := H1
 rw [QA]
 simp -dsimp only [↓evA, evB, Qm, Tryz.func32, Tryz.f32, QJN, QuL, TP, TZ, Nat.reduceAdd, Nat.reduceMul, Nat.reduceBEq, Nat.reduceLeDiff, Nat.reduceLT]
 apply Qu i
 intro i
 simp -dsimp +contextual only [↓evA, eZ, Nat.reduceAdd, Nat.reduceMul, Nat.reduceBEq, Nat.reduceLeDiff, Nat.reduceLT, QdM]
 try simp only [Qv, eY]
 all_goals rfl
theorem Qcz {R1 l} [H1 : EncL QE R1 l] : CP T (n + 5) 32 [.imm 8 R1] = (VV l).map fun r => .b r := by
 obtain ⟨rfl⟩ := H1
 rw [Qi]
 simp -dsimp +contextual only [↓evA, eZ, Nat.reduceAdd, Nat.reduceMul, Nat.reduceBEq, Nat.reduceLeDiff, Nat.reduceLT, Tryz.func32, Tryz.f32, QJN, QuL, QgY]
 try simp only [VV, eY]
 all_goals rfl
theorem QfB (a2 a3) {R1 o R2 a} [H1 : EncR QE R1 o] [H2 : EncL QE R2 a] : LP T (n + 1) 34 5 (frm [(3, .ptr 0 0 0), (12, .imm 8 R2), (13, .i .i64 a2), (14, .i .i64 a3)]) [some (Ent.box R1)] =
  (run (Xa a a2) (o, a3)).map (fun (zr : Find) => (XE.exit 0, frm [(3, .ptr 0 0 0)], [some (Ent.box (QE zr))])) := by
 rcases H1, H2 with ⟨⟨rfl⟩, ⟨rfl⟩⟩
 rw [QA]
 simp -dsimp only [↓evA, evB, Qm, Tryz.func34, Tryz.f34, QH5, QvL, TP, TZ, Nat.reduceAdd, Nat.reduceMul, Nat.reduceBEq, Nat.reduceLeDiff, Nat.reduceLT]
 apply Vg o a3
 intro o a3
 simp -dsimp +contextual only [↓evA, eZ, Nat.reduceAdd, Nat.reduceMul, Nat.reduceBEq, Nat.reduceLeDiff, Nat.reduceLT]
 try simp only [Xa, eY]
 all_goals rfl
theorem QhO {R1 l} [H1 : EncL QE R1 l] : CP T (n + 2) 34 [.imm 8 R1] = (Xz l).map fun r => .i .i64 r := by
 obtain ⟨rfl⟩ := H1
 rw [Qi]
 simp -dsimp +contextual only [↓evA, eZ, Nat.reduceAdd, Nat.reduceMul, Nat.reduceBEq, Nat.reduceLeDiff, Nat.reduceLT, Tryz.func34, Tryz.f34, QH5, QvL, QfB]
 try simp only [Xz, eY]
 all_goals rfl
theorem QgK (c) {R1 f} [H1 : EncR QE R1 f] : CP T (n + 1) 98 [.agg R1, .iptr 1 [[.i .i64 c]] 0 0] = (QaM f c).map fun r => .b r := by
 obtain ⟨rfl⟩ := H1
 rw [Qi]
 simp -dsimp +contextual only [↓evA, eZ, Nat.reduceAdd, Nat.reduceMul, Nat.reduceBEq, Nat.reduceLeDiff, Nat.reduceLT, Tryz.func98, Tryz.f98, QOG, QyR]
 try simp only [QaM, eY]
 all_goals rfl
theorem ZI (f a a2) {R1 s} [H1 : EncL QE R1 s] : LP T (n + 2) 97 2 (frm [(0, .imm 8 R1), (1, .clo 98 [.iptr 1 [[.i .i64 f]] 0 0]), (7, .i .i64 a), (8, .i .i64 a2)]) [] =
  Zs (run (Qr s f a) a2) (fun (zr : Int) => (XE.ret, frm [(4, .i .i64 zr)], [])) (fun (zr : Unit) => (XE.exit 0, frm [], [])) := by
 obtain ⟨rfl⟩ := H1
 rw [QA]
 simp -dsimp only [↓evA, evB, Qm, Tryz.func97, Tryz.f97, QI6, Qw4, TP, TZ, Nat.reduceAdd, Nat.reduceMul, Nat.reduceBEq, Nat.reduceLeDiff, Nat.reduceLT]
 apply Qu a2
 intro a2
 simp -dsimp +contextual only [↓evA, eZ, Nat.reduceAdd, Nat.reduceMul, Nat.reduceBEq, Nat.reduceLeDiff, Nat.reduceLT, QgK]
 try simp only [Qr, eY]
 all_goals rfl
theorem Z7 (c) {R1 s} [H1 : EncL QE R1 s] : CP T (n + 3) 97 [.imm 8 R1, .clo 98 [.iptr 1 [[.i .i64 c]] 0 0]] = (Q9 s c).map fun r => .i .i64 r := by
 obtain ⟨rfl⟩ := H1
 rw [Qi]
 simp -dsimp +contextual only [↓evA, eZ, Nat.reduceAdd, Nat.reduceMul, Nat.reduceBEq, Nat.reduceLeDiff, Nat.reduceLT, Tryz.func97, Tryz.f97, QI6, Qw4, ZI]
 try simp only [Q9, eY]
 all_goals rfl
theorem QaF (i) {R1 l} [H1 : EncL QE R1 l] : CP T (n + 4) 35 [.imm 8 R1, .i .i64 i] = (VG l i).map fun r => .i .i64 r := by
 obtain ⟨rfl⟩ := H1
 rw [Qi]
 simp -dsimp +contextual only [↓evA, eZ, Nat.reduceAdd, Nat.reduceMul, Nat.reduceBEq, Nat.reduceLeDiff, Nat.reduceLT, Tryz.func35, Tryz.f35, QMt, QyZ, Z7]
 try simp only [VG, eY]
 all_goals rfl
theorem QgZ (i) {R1 c R2 l} [H1 : EncR QM R1 c] [H2 : EncL Vi R2 l] : LP T (n + 3) 78 3 (frm [(0, .ptr 0 0 0), (3, .sl 1), (4, .i .i64 i)]) [some (Ent.box R1), some (Ent.lst 3 R2)] =
  (run JW (c, l, i)).map (fun (zr : l1Cur × (List Slot)) => (XE.exit 0, frm [(0, .ptr 0 0 0), (3, .sl 1)], [some (Ent.box (QM zr.1)), some (Ent.lst 3 (zr.2.map Vi))])) := by
 rcases H1, H2 with ⟨⟨rfl⟩, ⟨rfl⟩⟩
 rw [QA]
 simp -dsimp only [↓evA, evB, Qm, Tryz.func78, Tryz.f78, QHg, QuK, TP, TZ, Nat.reduceAdd, Nat.reduceMul, Nat.reduceBEq, Nat.reduceLeDiff, Nat.reduceLT]
 apply Qcr c l i
 intro c l i
 simp -dsimp +contextual only [↓evA, eZ, Nat.reduceAdd, Nat.reduceMul, Nat.reduceBEq, Nat.reduceLeDiff, Nat.reduceLT, srt, QS]
 try simp only [JW, eY]
 all_goals rfl
theorem QjQ {R1 c} [H1 : EncR QM R1 c] : CA T (n + 4) 78 [some (Ent.box R1)] [.ptr 0 0 0] = (Qbd c).map fun r => (.sl 1, [some (Ent.box (QM r.1)), some (Ent.lst 3 (r.2.map Vi))]) := by
 obtain ⟨rfl⟩ := H1
 rw [QbA]
 simp -dsimp +contextual (maxSteps := 100000000) only [↓evA, eZ, Nat.reduceAdd, Nat.reduceMul, Nat.reduceBEq, Nat.reduceLeDiff, Nat.reduceLT, Tryz.func78, Tryz.f78, QHg, QuK, srt, QgZ]
 try simp only [Qbd, eY]
 all_goals rfl
theorem Qhq (i) {R1 l R2 o} [H1 : EncL VA R1 l] [H2 : EncL VF R2 o] : LP T (n + 1) 161 3 (frm [(0, .imm 3 R1), (3, .sl 0), (4, .i .i64 i)]) [some (Ent.lst 3 R2)] =
  (run (Jp l) (o, i)).map (fun (zr : (List Secret)) => (XE.exit 0, frm [(3, .sl 0)], [some (Ent.lst 3 (zr.map VF))])) := by
 rcases H1, H2 with ⟨⟨rfl⟩, ⟨rfl⟩⟩
 rw [QA]
 simp -dsimp only [↓evA, evB, Qm, Tryz.func161, Tryz.f161, QAv, Qo8, TP, TZ, Nat.reduceAdd, Nat.reduceMul, Nat.reduceBEq, Nat.reduceLeDiff, Nat.reduceLT]
 apply Vg o i
 intro o i
 simp -dsimp +contextual only [↓evA, eZ, Nat.reduceAdd, Nat.reduceMul, Nat.reduceBEq, Nat.reduceLeDiff, Nat.reduceLT]
 try simp only [Jp, eY]
 all_goals rfl
theorem Qfg {R1 l} [H1 : EncL VA R1 l] : CP T (n + 2) 161 [.imm 3 R1] = (V1 l).map fun r => .own 3 (r.map VF) := by
 obtain ⟨rfl⟩ := H1
 rw [Qi]
 simp -dsimp +contextual only [↓evA, eZ, Nat.reduceAdd, Nat.reduceMul, Nat.reduceBEq, Nat.reduceLeDiff, Nat.reduceLT, Tryz.func161, Tryz.f161, QAv, Qo8, Qhq]
 try simp only [V1, eY]
 all_goals first | rfl | (simp +contextual only [evN] <;> rfl)
theorem Vu {R1 a} [H1 : EncR Va R1 a] : CP T (n + 3) 86 [.agg R1] = (Q4 a).map fun r => .agg (JC r) := by
 obtain ⟨rfl⟩ := H1
 rw [Qi]
 simp -dsimp +contextual (maxSteps := 100000000) only [↓evA, eZ, Nat.reduceAdd, Nat.reduceMul, Nat.reduceBEq, Nat.reduceLeDiff, Nat.reduceLT, Tryz.func86, Tryz.f86, QNW, Qyr, Qfg]
 try simp only [Q4, eY]
 all_goals rfl
theorem QgS (i) {R1 l} [H1 : EncL Xt R1 l] : LP T (n + 2) 182 2 (frm [(0, .imm 2 R1), (3, .i .i64 i)]) [] =
  Zs (run (JN l) i) (fun (zr : Bool) => (XE.ret, frm [(2, .b zr)], [])) (fun (zr : Unit) => (XE.exit 0, frm [(0, .imm 2 (l.map Xt))], [])) := by
 obtain ⟨rfl⟩ := H1
 rw [QA]
 simp -dsimp only [↓evA, evB, Qm, Tryz.func182, Tryz.f182, Qz6, QoE, TP, TZ, Nat.reduceAdd, Nat.reduceMul, Nat.reduceBEq, Nat.reduceLeDiff, Nat.reduceLT]
 apply Qu i
 intro i
 simp -dsimp +contextual only [↓evA, eZ, Nat.reduceAdd, Nat.reduceMul, Nat.reduceBEq, Nat.reduceLeDiff, Nat.reduceLT, Ve]
 try simp only [JN, eY]
 all_goals rfl
theorem QcF {R1 l} [H1 : EncL Xt R1 l] : CP T (n + 3) 182 [.imm 2 R1] = (Qai l).map fun r => .b r := by
 obtain ⟨rfl⟩ := H1
 rw [Qi]
 simp -dsimp +contextual only [↓evA, eZ, Nat.reduceAdd, Nat.reduceMul, Nat.reduceBEq, Nat.reduceLeDiff, Nat.reduceLT, Tryz.func182, Tryz.f182, Qz6, QoE, QgS]
 try simp only [Qai, eY]
 all_goals rfl
theorem QfH (a) {R1 l} [H1 : EncL VA R1 l] : LP T (n + 4) 114 2 (frm [(0, .imm 3 R1), (3, .i .i64 a)]) [] =
  Zs (run (V8 l) a) (fun (zr : Bool) => (XE.ret, frm [(2, .b zr)], [])) (fun (zr : Unit) => (XE.exit 0, frm [(0, .imm 3 (l.map VA))], [])) := by
 obtain ⟨rfl⟩ := H1
 rw [QA]
 simp -dsimp only [↓evA, evB, Qm, Tryz.func114, Tryz.f114, QAs, Qn8, TP, TZ, Nat.reduceAdd, Nat.reduceMul, Nat.reduceBEq, Nat.reduceLeDiff, Nat.reduceLT]
 apply Qu a
 intro a
 simp -dsimp +contextual only [↓evA, eZ, Nat.reduceAdd, Nat.reduceMul, Nat.reduceBEq, Nat.reduceLeDiff, Nat.reduceLT, Ve, QcF]
 try simp only [V8, eY]
 all_goals rfl
theorem Qdj {R1 l} [H1 : EncL VA R1 l] : CP T (n + 5) 114 [.imm 3 R1] = (Js l).map fun r => .b r := by
 obtain ⟨rfl⟩ := H1
 rw [Qi]
 simp -dsimp +contextual only [↓evA, eZ, Nat.reduceAdd, Nat.reduceMul, Nat.reduceBEq, Nat.reduceLeDiff, Nat.reduceLT, Tryz.func114, Tryz.f114, QAs, Qn8, QfH]
 try simp only [Js, eY]
 all_goals rfl
theorem Qg0 (a a2) {R1 l} [H1 : EncL Vi R1 l] : LP T (n + 1) 115 7 (frm [(0, .imm 3 R1), (3, .i .i64 a), (4, .i .i64 a2)]) [] =
  Zs (run (XO l a) a2) (fun (zr : Bool) => (XE.ret, frm [(2, .b zr)], [])) (fun (zr : Unit) => (XE.exit 2, frm [(0, .imm 3 (l.map Vi)), (3, .i .i64 a)], [])) := by
 obtain ⟨rfl⟩ := H1
 rw [QA]
 simp -dsimp only [↓evA, evB, Qm, Tryz.func115, Tryz.f115, Qt2, Qmp, TP, TZ, Nat.reduceAdd, Nat.reduceMul, Nat.reduceBEq, Nat.reduceLeDiff, Nat.reduceLT]
 apply Qu a2
 intro a2
 simp -dsimp +contextual only [↓evA, eZ, Nat.reduceAdd, Nat.reduceMul, Nat.reduceBEq, Nat.reduceLeDiff, Nat.reduceLT]
 try simp only [XO, eY]
 all_goals rfl
theorem QgT (a) {R1 l} [H1 : EncL Vi R1 l] : LP T (n + 2) 115 2 (frm [(0, .imm 3 R1), (3, .i .i64 a)]) [] =
  Zs (run (VL l) a) (fun (zr : Bool) => (XE.ret, frm [(2, .b zr)], [])) (fun (zr : Unit) => (XE.exit 0, frm [(0, .imm 3 (l.map Vi))], [])) := by
 obtain ⟨rfl⟩ := H1
 rw [QA]
 simp -dsimp only [↓evA, evB, Qm, Tryz.func115, Tryz.f115, Qt2, Qmp, TP, TZ, Nat.reduceAdd, Nat.reduceMul, Nat.reduceBEq, Nat.reduceLeDiff, Nat.reduceLT]
 apply Qu a
 intro a
 simp -dsimp +contextual only [↓evA, eZ, Nat.reduceAdd, Nat.reduceMul, Nat.reduceBEq, Nat.reduceLeDiff, Nat.reduceLT, Ve, Qg0]
 try simp only [VL, eY]
 all_goals rfl
theorem QcH {R1 l} [H1 : EncL Vi R1 l] : CP T (n + 3) 115 [.imm 3 R1] = (JM l).map fun r => .b r := by
 obtain ⟨rfl⟩ := H1
 rw [Qi]
 simp -dsimp +contextual only [↓evA, eZ, Nat.reduceAdd, Nat.reduceMul, Nat.reduceBEq, Nat.reduceLeDiff, Nat.reduceLT, Tryz.func115, Tryz.f115, Qt2, Qmp, QgT]
 try simp only [JM, eY]
 all_goals rfl
theorem Qgg (a a3) {R1 l R2 a2} [H1 : EncL Qw R1 l] [H2 : EncR Qw R2 a2] : LP T (n + 1) 116 8 (frm [(0, .imm 5 R1), (3, .i .i64 a), (4, .ptr 0 0 0), (5, .i .i64 a3)]) [some (Ent.box R2)] =
  Zs (run (Xp l a a2) a3) (fun (zr : Bool) => (XE.ret, frm [(2, .b zr)], [])) (fun (zr : Unit) => (XE.exit 2, frm [(0, .imm 5 (l.map Qw)), (3, .i .i64 a)], [])) := by
 rcases H1, H2 with ⟨⟨rfl⟩, ⟨rfl⟩⟩
 rw [QA]
 simp -dsimp only [↓evA, evB, Qm, Tryz.func116, Tryz.f116, Qu3, Qmx, TP, TZ, Nat.reduceAdd, Nat.reduceMul, Nat.reduceBEq, Nat.reduceLeDiff, Nat.reduceLT]
 apply Qu a3
 intro a3
 simp -dsimp +contextual only [↓evA, eZ, Nat.reduceAdd, Nat.reduceMul, Nat.reduceBEq, Nat.reduceLeDiff, Nat.reduceLT]
 try simp only [Xp, eY]
 all_goals rfl
theorem Qgf (a) {R1 l} [H1 : EncL Qw R1 l] : LP T (n + 2) 116 2 (frm [(0, .imm 5 R1), (3, .i .i64 a)]) [] =
  Zs (run (Qz l) a) (fun (zr : Bool) => (XE.ret, frm [(2, .b zr)], [])) (fun (zr : Unit) => (XE.exit 0, frm [(0, .imm 5 (l.map Qw))], [])) := by
 obtain ⟨rfl⟩ := H1
 rw [QA]
 simp -dsimp only [↓evA, evB, Qm, Tryz.func116, Tryz.f116, Qu3, Qmx, TP, TZ, Nat.reduceAdd, Nat.reduceMul, Nat.reduceBEq, Nat.reduceLeDiff, Nat.reduceLT]
 apply Qu a
 intro a
 simp -dsimp +contextual only [↓evA, eZ, Nat.reduceAdd, Nat.reduceMul, Nat.reduceBEq, Nat.reduceLeDiff, Nat.reduceLT, Ve, Qgg]
 try simp only [Qz, eY]
 all_goals rfl
theorem Qb9 {R1 l} [H1 : EncL Qw R1 l] : CP T (n + 3) 116 [.imm 5 R1] = (QI l).map fun r => .b r := by
 obtain ⟨rfl⟩ := H1
 rw [Qi]
 simp -dsimp +contextual only [↓evA, eZ, Nat.reduceAdd, Nat.reduceMul, Nat.reduceBEq, Nat.reduceLeDiff, Nat.reduceLT, Tryz.func116, Tryz.f116, Qu3, Qmx, Qgf]
 try simp only [QI, eY]
 all_goals rfl
theorem Qlt (a m) : CP T (n + 2) 305 [.i .i64 a, .i .i64 m] = (QbD a m).map fun r => .i .i64 r := by
 rw [Qi]
 simp -dsimp +contextual only [↓evA, eZ, Nat.reduceAdd, Nat.reduceMul, Nat.reduceBEq, Nat.reduceLeDiff, Nat.reduceLT, Tryz.func305, Tryz.f305, QFs, Qq7, Ve]
 try simp only [QbD, eY]
 all_goals rfl
theorem Qkp (d i) {R1 l} [H1 : EncL Vm R1 l] : LP T (n + 3) 258 3 (frm [(0, .imm 1 R1), (3, .i .i64 d), (4, .i .i64 i)]) [] =
  (run (V2 l) (d, i)).map (fun (zr : Int) => (XE.exit 0, frm [(3, .i .i64 zr)], [])) := by
 obtain ⟨rfl⟩ := H1
 rw [QA]
 simp -dsimp only [↓evA, evB, Qm, Tryz.func258, Tryz.f258, QAo, Qop, TP, TZ, Nat.reduceAdd, Nat.reduceMul, Nat.reduceBEq, Nat.reduceLeDiff, Nat.reduceLT]
 apply Vg d i
 intro d i
 simp -dsimp +contextual only [↓evA, eZ, Nat.reduceAdd, Nat.reduceMul, Nat.reduceBEq, Nat.reduceLeDiff, Nat.reduceLT, Qlt]
 try simp only [V2, eY]
 all_goals rfl
theorem QfK {R1 l} [H1 : EncL Vm R1 l] : CP T (n + 4) 258 [.imm 1 R1] = (J9 l).map fun r => .i .i64 r := by
 obtain ⟨rfl⟩ := H1
 rw [Qi]
 simp -dsimp +contextual only [↓evA, eZ, Nat.reduceAdd, Nat.reduceMul, Nat.reduceBEq, Nat.reduceLeDiff, Nat.reduceLT, Tryz.func258, Tryz.f258, QAo, Qop, Qkp]
 try simp only [J9, eY]
 all_goals rfl
theorem QeP (b) {R1 a} [H1 : EncR VT R1 a] : CP T (n + 5) 183 [.i .i64 b, .agg R1] = (JE b a).map fun r => .i .i64 r := by
 obtain ⟨rfl⟩ := H1
 rw [Qi]
 simp -dsimp +contextual only [↓evA, eZ, Nat.reduceAdd, Nat.reduceMul, Nat.reduceBEq, Nat.reduceLeDiff, Nat.reduceLT, Tryz.func183, Tryz.f183, QFO, QrJ, QfK]
 try simp only [JE, eY]
 all_goals rfl
theorem Qig (a b k i) {R1 l} [H1 : EncL VT R1 l] : LP T (n + 1) 184 3 (frm [(0, .imm 5 R1), (1, .i .i64 a), (2, .i .i64 b), (7, .i .i64 k), (8, .i .i64 i)]) [] =
  (run (Jq l a b) (k, i)).map (fun (zr : Int) => (XE.exit 0, frm [(7, .i .i64 zr)], [])) := by
 obtain ⟨rfl⟩ := H1
 rw [QA]
 simp -dsimp only [↓evA, evB, Qm, Tryz.func184, Tryz.f184, QAa, QnS, TP, TZ, Nat.reduceAdd, Nat.reduceMul, Nat.reduceBEq, Nat.reduceLeDiff, Nat.reduceLT]
 apply Vg k i
 intro k i
 simp -dsimp +contextual only [↓evA, eZ, Nat.reduceAdd, Nat.reduceMul, Nat.reduceBEq, Nat.reduceLeDiff, Nat.reduceLT]
 try simp only [Jq, eY]
 all_goals rfl
theorem Qe9 (a b) {R1 l} [H1 : EncL VT R1 l] : CP T (n + 2) 184 [.imm 5 R1, .i .i64 a, .i .i64 b] = (QaG l a b).map fun r => .i .i64 r := by
 obtain ⟨rfl⟩ := H1
 rw [Qi]
 simp -dsimp +contextual only [↓evA, eZ, Nat.reduceAdd, Nat.reduceMul, Nat.reduceBEq, Nat.reduceLeDiff, Nat.reduceLT, Tryz.func184, Tryz.f184, QAa, QnS, Qig]
 try simp only [QaG, eY]
 all_goals rfl
theorem Qhj (a a2) {R1 l} [H1 : EncL VT R1 l] : LP T (n + 6) 117 3 (frm [(0, .imm 5 R1), (3, .i .i64 a), (4, .i .i64 a2)]) [] =
  Zs (run (QB l) (a, a2)) (fun (zr : Bool) => (XE.ret, frm [(2, .b zr)], [])) (fun (zr : Unit) => (XE.exit 0, frm [(0, .imm 5 (l.map VT))], [])) := by
 obtain ⟨rfl⟩ := H1
 rw [QA]
 simp -dsimp only [↓evA, evB, Qm, Tryz.func117, Tryz.f117, QzX, QoI, TP, TZ, Nat.reduceAdd, Nat.reduceMul, Nat.reduceBEq, Nat.reduceLeDiff, Nat.reduceLT]
 apply Vg a a2
 intro a a2
 simp -dsimp +contextual only [↓evA, eZ, Nat.reduceAdd, Nat.reduceMul, Nat.reduceBEq, Nat.reduceLeDiff, Nat.reduceLT, QeP, Ve, Qe9]
 try simp only [QB, eY]
 all_goals rfl
theorem Qc2 {R1 l} [H1 : EncL VT R1 l] : CP T (n + 7) 117 [.imm 5 R1] = (VJ l).map fun r => .b r := by
 obtain ⟨rfl⟩ := H1
 rw [Qi]
 simp -dsimp +contextual only [↓evA, eZ, Nat.reduceAdd, Nat.reduceMul, Nat.reduceBEq, Nat.reduceLeDiff, Nat.reduceLT, Tryz.func117, Tryz.f117, QzX, QoI, Qhj]
 try simp only [VJ, eY]
 all_goals rfl
theorem Qe6 (i) {R1 l} [H1 : EncL VO R1 l] : LP T (n + 2) 118 2 (frm [(0, .imm 4 R1), (3, .i .i64 i)]) [] =
  Zs (run (V9 l) i) (fun (zr : Bool) => (XE.ret, frm [(2, .b zr)], [])) (fun (zr : Unit) => (XE.exit 0, frm [(0, .imm 4 (l.map VO))], [])) := by
 obtain ⟨rfl⟩ := H1
 rw [QA]
 simp -dsimp only [↓evA, evB, Qm, Tryz.func118, Tryz.f118, QzS, Qo6, TP, TZ, Nat.reduceAdd, Nat.reduceMul, Nat.reduceBEq, Nat.reduceLeDiff, Nat.reduceLT]
 apply Qu i
 intro i
 simp -dsimp +contextual only [↓evA, eZ, Nat.reduceAdd, Nat.reduceMul, Nat.reduceBEq, Nat.reduceLeDiff, Nat.reduceLT, Ve]
 try simp only [V9, eY]
 all_goals rfl
theorem QdB {R1 l} [H1 : EncL VO R1 l] : CP T (n + 3) 118 [.imm 4 R1] = (Jm l).map fun r => .b r := by
 obtain ⟨rfl⟩ := H1
 rw [Qi]
 simp -dsimp +contextual only [↓evA, eZ, Nat.reduceAdd, Nat.reduceMul, Nat.reduceBEq, Nat.reduceLeDiff, Nat.reduceLT, Tryz.func118, Tryz.f118, QzS, Qo6, Qe6]
 try simp only [Jm, eY]
 all_goals rfl
theorem QjN (a k) {R1 l} [H1 : EncL Vm R1 l] : LP T (n + 1) 259 2 (frm [(0, .imm 1 R1), (1, .i .i64 a), (5, .i .i64 k)]) [] =
  (run (JJ l a) k).map (fun (zr : Int) => (XE.exit 0, frm [(0, .imm 1 (l.map Vm)), (1, .i .i64 a), (5, .i .i64 zr)], [])) := by
 obtain ⟨rfl⟩ := H1
 rw [QA]
 simp -dsimp only [↓evA, evB, Qm, Tryz.func259, Tryz.f259, Qz8, Qn7, TP, TZ, Nat.reduceAdd, Nat.reduceMul, Nat.reduceBEq, Nat.reduceLeDiff, Nat.reduceLT]
 apply Qu k
 intro k
 simp -dsimp +contextual only [↓evA, eZ, Nat.reduceAdd, Nat.reduceMul, Nat.reduceBEq, Nat.reduceLeDiff, Nat.reduceLT]
 try simp only [JJ, eY]
 try simp only [List.contains_nil, Bool.not_false, Bool.and_true, VB, List.length_append, List.length_cons, List.length_nil, Nat.zero_add, VN, Xc]
 all_goals rfl
theorem Qm3 (a) {R1 l} [H1 : EncL Vm R1 l] : CP T (n + 2) 259 [.imm 1 R1, .i .i64 a] = (Qbo l a).map fun r => .own 1 (r.map Vm) := by
 obtain ⟨rfl⟩ := H1
 rw [Qi]
 simp -dsimp +contextual only [↓evA, eZ, Nat.reduceAdd, Nat.reduceMul, Nat.reduceBEq, Nat.reduceLeDiff, Nat.reduceLT, Tryz.func259, Tryz.f259, Qz8, Qn7, QjN]
 try simp only [Qbo, eY]
 try simp only [List.contains_nil, Bool.not_false, Bool.and_true, VB, List.length_append, List.length_cons, List.length_nil, Nat.zero_add, VN, Xc]
 all_goals first | rfl | (simp +contextual only [evN] <;> rfl)
theorem Qh7 (a i) {R1 l R2 o} [H1 : EncL VT R1 l] [H2 : EncL Vm R2 o] : LP T (n + 8) 185 3 (frm [(0, .imm 5 R1), (1, .i .i64 a), (5, .sl 0), (6, .i .i64 i)]) [some (Ent.lst 1 R2)] =
  (run (J6 l a) (o, i)).map (fun (zr : (List Int)) => (XE.exit 0, frm [(5, .sl 0)], [some (Ent.lst 1 (zr.map Vm))])) := by
 rcases H1, H2 with ⟨⟨rfl⟩, ⟨rfl⟩⟩
 rw [QA]
 simp -dsimp only [↓evA, evB, Qm, Tryz.func185, Tryz.f185, QAr, Qo5, TP, TZ, Nat.reduceAdd, Nat.reduceMul, Nat.reduceBEq, Nat.reduceLeDiff, Nat.reduceLT]
 apply Vg o i
 intro o i
 simp -dsimp +contextual only [↓evA, eZ, Nat.reduceAdd, Nat.reduceMul, Nat.reduceBEq, Nat.reduceLeDiff, Nat.reduceLT, Qc2, Qe9, Qm3]
 try simp only [J6, eY]
 all_goals rfl
theorem QlC (a) {R1 l} [H1 : EncL VT R1 l] : CP T (n + 9) 185 [.imm 5 R1, .i .i64 a] = (QbP l a).map fun r => .own 1 (r.map Vm) := by
 obtain ⟨rfl⟩ := H1
 rw [Qi]
 simp -dsimp +contextual only [↓evA, eZ, Nat.reduceAdd, Nat.reduceMul, Nat.reduceBEq, Nat.reduceLeDiff, Nat.reduceLT, Tryz.func185, Tryz.f185, QAr, Qo5, Qh7]
 try simp only [QbP, eY]
 all_goals first | rfl | (simp +contextual only [evN] <;> rfl)
theorem Qgl (i i2) {R1 l} [H1 : EncL QE R1 l] : LP T (n + 1) 186 2 (frm [(0, .imm 8 R1), (1, .i .i64 i), (5, .i .i64 i2)]) [] =
  Zs (run (Jh l i) i2) (fun (zr : Int) => (XE.ret, frm [(4, .i .i64 zr)], [])) (fun (zr : Unit) => (XE.exit 0, frm [], [])) := by
 obtain ⟨rfl⟩ := H1
 rw [QA]
 simp -dsimp only [↓evA, evB, Qm, Tryz.func186, Tryz.f186, Qz5, Qpb, TP, TZ, Nat.reduceAdd, Nat.reduceMul, Nat.reduceBEq, Nat.reduceLeDiff, Nat.reduceLT]
 apply Qu i2
 intro i2
 simp -dsimp +contextual only [↓evA, eZ, Nat.reduceAdd, Nat.reduceMul, Nat.reduceBEq, Nat.reduceLeDiff, Nat.reduceLT]
 try simp only [Jh, eY]
 all_goals rfl
theorem JQ (i) {R1 l} [H1 : EncL QE R1 l] : CP T (n + 2) 186 [.imm 8 R1, .i .i64 i] = (VW l i).map fun r => .i .i64 r := by
 obtain ⟨rfl⟩ := H1
 rw [Qi]
 simp -dsimp +contextual only [↓evA, eZ, Nat.reduceAdd, Nat.reduceMul, Nat.reduceBEq, Nat.reduceLeDiff, Nat.reduceLT, Tryz.func186, Tryz.f186, Qz5, Qpb, Qgl]
 try simp only [VW, eY]
 all_goals rfl
theorem Qi7 (a i) {R1 l} [H1 : EncL Vi R1 l] : LP T (n + 1) 187 2 (frm [(0, .imm 3 R1), (1, .i .i64 a), (5, .i .i64 i)]) [] =
  Zs (run (Xs l a) i) (fun (zr : Int) => (XE.ret, frm [(4, .i .i64 zr)], [])) (fun (zr : Unit) => (XE.exit 0, frm [], [])) := by
 obtain ⟨rfl⟩ := H1
 rw [QA]
 simp -dsimp only [↓evA, evB, Qm, Tryz.func187, Tryz.f187, QAD, Qpw, TP, TZ, Nat.reduceAdd, Nat.reduceMul, Nat.reduceBEq, Nat.reduceLeDiff, Nat.reduceLT]
 apply Qu i
 intro i
 simp -dsimp +contextual only [↓evA, eZ, Nat.reduceAdd, Nat.reduceMul, Nat.reduceBEq, Nat.reduceLeDiff, Nat.reduceLT]
 try simp only [Xs, eY]
 all_goals rfl
theorem Qch (a) {R1 l} [H1 : EncL Vi R1 l] : CP T (n + 2) 187 [.imm 3 R1, .i .i64 a] = (X5 l a).map fun r => .i .i64 r := by
 obtain ⟨rfl⟩ := H1
 rw [Qi]
 simp -dsimp +contextual only [↓evA, eZ, Nat.reduceAdd, Nat.reduceMul, Nat.reduceBEq, Nat.reduceLeDiff, Nat.reduceLT, Tryz.func187, Tryz.f187, QAD, Qpw, Qi7]
 try simp only [X5, eY]
 all_goals rfl
end Go.Proofs.YtkbilciipmijjaaGreat
