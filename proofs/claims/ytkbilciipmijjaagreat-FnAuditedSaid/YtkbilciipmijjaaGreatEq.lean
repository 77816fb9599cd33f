import Derived.Test.YtkbilciipmijjaaGreatEq3
namespace Go.Proofs.YtkbilciipmijjaaGreat
open Go Go.Proofs Go.Proofs.YtkbilciipmijjaaGreat.Am
set_option maxHeartbeats 4000000
set_option linter.unusedVariables false
set_option linter.unusedSimpArgs false
set_option linter.defProp false
set_option maxRecDepth 100000
variable (n : Nat)
theorem QiR {R1 a} [H1 : EncL QU R1 a] : CP T (n + 3) 145 [.imm 1 R1, .nil] = (Qb0 a).map fun r => .own 1 (r.map QU) := by
 obtain ⟨rfl⟩ := H1
 rw [Qg]
 simp -dsimp +contextual only [↓evA, eZ, Nat.reduceAdd, Nat.reduceMul, Nat.reduceBEq, Nat.reduceLeDiff, Nat.reduceLT, Tryz.func145, Tryz.f145, QH5, Qtd, srt, Qgu]
 try simp only [Qb0, eY]
 all_goals first | rfl | (simp +contextual only [evN] <;> rfl)
theorem QfZ (a2 a3) {R1 o R2 a} [H1 : EncL QU R1 o] [H2 : EncL Vw R2 a] : LP T (n + 1) 72 3 (frm [(3, .sl 0), (7, .imm 4 R2), (8, .i .i64 a2), (9, .i .i64 a3)]) [some (Ent.lst 1 R1)] =
  (run (Xb a a2) (o, a3)).map (fun (zr : (List Int)) => (XE.exit 0, frm [(3, .sl 0)], [some (Ent.lst 1 (zr.map QU))])) := by
 rcases H1, H2 with ⟨⟨rfl⟩, ⟨rfl⟩⟩
 rw [QB]
 simp -dsimp only [↓evA, evB, Qm, Tryz.func72, Tryz.f72, QIx, QvG, TP, TZ, Nat.reduceAdd, Nat.reduceMul, Nat.reduceBEq, Nat.reduceLeDiff, Nat.reduceLT]
 apply Vh o a3
 intro o a3
 simp -dsimp +contextual only [↓evA, eZ, Nat.reduceAdd, Nat.reduceMul, Nat.reduceBEq, Nat.reduceLeDiff, Nat.reduceLT]
 try simp only [Xb, eY]
 all_goals rfl
theorem Qie {R1 l} [H1 : EncL Vw R1 l] : CP T (n + 4) 72 [.imm 4 R1] = (Zb l).map fun r => .own 1 (r.map QU) := by
 obtain ⟨rfl⟩ := H1
 rw [Qg]
 simp -dsimp +contextual only [↓evA, eZ, Nat.reduceAdd, Nat.reduceMul, Nat.reduceBEq, Nat.reduceLeDiff, Nat.reduceLT, Tryz.func72, Tryz.f72, QIx, QvG, QiR, QfZ]
 try simp only [Zb, eY]
 all_goals first | rfl | (simp +contextual only [evN] <;> rfl)
theorem QiD (a a2 a4 a5) {R1 a3} [H1 : EncL Vw R1 a3] : LP T (n + 1) 146 3 (frm [(1, .i .i64 a), (5, .i .i64 a2), (8, .imm 4 R1), (9, .i .i64 a4), (10, .i .i64 a5)]) [] =
  (run (Jn a a3 a4) (a2, a5)).map (fun (zr : Int) => (XE.exit 0, frm [(5, .i .i64 zr)], [])) := by
 obtain ⟨rfl⟩ := H1
 rw [QB]
 simp -dsimp only [↓evA, evB, Qm, Tryz.func146, Tryz.f146, QAD, Qo9, TP, TZ, Nat.reduceAdd, Nat.reduceMul, Nat.reduceBEq, Nat.reduceLeDiff, Nat.reduceLT]
 apply Vh a2 a5
 intro a2 a5
 simp -dsimp +contextual only [↓evA, eZ, Nat.reduceAdd, Nat.reduceMul, Nat.reduceBEq, Nat.reduceLeDiff, Nat.reduceLT]
 try simp only [Jn, eY]
 all_goals rfl
theorem Qkw (a) {R1 l} [H1 : EncL Vw R1 l] : CP T (n + 2) 146 [.imm 4 R1, .i .i64 a] = (Qc7 l a).map fun r => .i .i64 r := by
 obtain ⟨rfl⟩ := H1
 rw [Qg]
 simp -dsimp +contextual only [↓evA, eZ, Nat.reduceAdd, Nat.reduceMul, Nat.reduceBEq, Nat.reduceLeDiff, Nat.reduceLT, Tryz.func146, Tryz.f146, QAD, Qo9, QiD]
 try simp only [Qc7, eY]
 all_goals rfl
theorem QgN (a a2 a4 a5) {R1 a3} [H1 : EncL Vw R1 a3] : LP T (n + 1) 147 5 (frm [(1, .i .i64 a), (5, .i .i64 a2), (12, .imm 4 R1), (13, .i .i64 a4), (14, .i .i64 a5)]) [] =
  (run (Xo a a3 a4) (a2, a5)).map (fun (zr : Int) => (XE.exit 0, frm [(5, .i .i64 zr)], [])) := by
 obtain ⟨rfl⟩ := H1
 rw [QB]
 simp -dsimp only [↓evA, evB, Qm, Tryz.func147, Tryz.f147, Qz6, Qof, TP, TZ, Nat.reduceAdd, Nat.reduceMul, Nat.reduceBEq, Nat.reduceLeDiff, Nat.reduceLT]
 apply Vh a2 a5
 intro a2 a5
 simp -dsimp +contextual only [↓evA, eZ, Nat.reduceAdd, Nat.reduceMul, Nat.reduceBEq, Nat.reduceLeDiff, Nat.reduceLT]
 try simp only [Xo, eY]
 all_goals rfl
theorem Qjb (a) {R1 l} [H1 : EncL Vw R1 l] : CP T (n + 4) 147 [.imm 4 R1, .i .i64 a] = (Qb1 l a).map fun r => .i .i64 r := by
 obtain ⟨rfl⟩ := H1
 rw [Qg]
 simp -dsimp +contextual only [↓evA, eZ, Nat.reduceAdd, Nat.reduceMul, Nat.reduceBEq, Nat.reduceLeDiff, Nat.reduceLT, Tryz.func147, Tryz.f147, Qz6, Qof, Qcc, QgN]
 try simp only [Qb1, eY]
 all_goals rfl
theorem QfP (a) {R1 l} [H1 : EncL Vw R1 l] : CP T (n + 5) 73 [.imm 4 R1, .i .i64 a] = (Zo l a).map fun r => .i .i64 r := by
 obtain ⟨rfl⟩ := H1
 rw [Qg]
 simp -dsimp +contextual only [↓evA, eZ, Nat.reduceAdd, Nat.reduceMul, Nat.reduceBEq, Nat.reduceLeDiff, Nat.reduceLT, Tryz.func73, Tryz.f73, QL5, Qzs, Qcc, Qkw, Qjb]
 try simp only [Zo, eY]
 all_goals rfl
theorem QfM (s a3 a4) {R1 a R2 a2} [H1 : EncR QM R1 a] [H2 : EncL QU R2 a2] : LP T (n + 6) 15 3 (frm [(1, .ptr 0 0 0), (3, .i .i64 s), (8, .sl 1), (9, .i .i64 a3), (10, .i .i64 a4)]) [some (Ent.box R1), some (Ent.lst 1 R2)] =
  (run (VL a a2 a3) (s, a4)).map (fun (zr : Int) => (XE.exit 0, frm [(1, .ptr 0 0 0), (3, .i .i64 zr)], [some (Ent.box (QM a))])) := by
 rcases H1, H2 with ⟨⟨rfl⟩, ⟨rfl⟩⟩
 rw [QB]
 simp -dsimp only [↓evA, evB, Qm, Tryz.func15, Tryz.f15, QIV, QuU, TP, TZ, Nat.reduceAdd, Nat.reduceMul, Nat.reduceBEq, Nat.reduceLeDiff, Nat.reduceLT]
 apply Vh s a4
 intro s a4
 simp -dsimp +contextual (maxSteps := 100000000) only [↓evA, eZ, Nat.reduceAdd, Nat.reduceMul, Nat.reduceBEq, Nat.reduceLeDiff, Nat.reduceLT, QfP]
 try simp only [VL, eY]
 all_goals rfl
theorem QdB {R1 a} [H1 : EncR QM R1 a] : CP T (n + 7) 15 [.agg R1] = (J3 a).map fun r => .b r := by
 obtain ⟨rfl⟩ := H1
 rw [Qg]
 simp -dsimp +contextual (maxSteps := 100000000) only [↓evA, eZ, Nat.reduceAdd, Nat.reduceMul, Nat.reduceBEq, Nat.reduceLeDiff, Nat.reduceLT, Tryz.func15, Tryz.f15, QIV, QuU, Qie, QfP, QfM]
 try simp only [J3, eY]
 all_goals rfl
theorem QkY {R1 a} [H1 : EncR QM R1 a] : CP T (n + 12) 10 [.agg R1] = (Qc2 a).map fun r => .s r := by
 obtain ⟨rfl⟩ := H1
 rw [Qg]
 simp -dsimp +contextual (maxSteps := 100000000) only [↓evA, eZ, Nat.reduceAdd, Nat.reduceMul, Nat.reduceBEq, Nat.reduceLeDiff, Nat.reduceLT, Tryz.func10, Tryz.f10, QOE, QxR, Qfv, Qdj, QeC, QcZ, QdB]
 try simp only [Qc2, eY]
 all_goals rfl
theorem Qi7 {R1 c} [H1 : EncL QcC R1 c] : CP T (n + 20) 3 [.imm 1 R1] = (Qb3 c).map fun r => .b r := by
 obtain ⟨rfl⟩ := H1
 rw [Qg]
 simp -dsimp +contextual only [↓evA, eZ, Nat.reduceAdd, Nat.reduceMul, Nat.reduceBEq, Nat.reduceLeDiff, Nat.reduceLT, Tryz.func3, Tryz.f3, Aa3, An3, QqB, Qhw, QkY, Qfv, Qdj, QeC, QcZ, QdB]
 try simp only [Qb3, eY]
 all_goals rfl
end Go.Proofs.YtkbilciipmijjaaGreat
