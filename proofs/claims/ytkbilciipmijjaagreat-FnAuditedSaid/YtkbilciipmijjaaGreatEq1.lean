import Derived.Test.YtkbilciipmijjaaGreatEc
namespace Go.Proofs.YtkbilciipmijjaaGreat
open Go Go.Proofs Go.Proofs.YtkbilciipmijjaaGreat.Am
set_option maxHeartbeats 4000000
set_option linter.unusedVariables false
set_option linter.unusedSimpArgs false
set_option linter.defProp false
set_option maxRecDepth 100000
variable (n : Nat)
theorem QqB {R1 c} [H1 : EncL QcC R1 c] : CP T (n + 1) 8 [.imm 1 R1] = (Qiv c).map fun r => .b r := by
 obtain ⟨rfl⟩ := H1
 rw [Qg]
 simp -dsimp +contextual only [↓evA, eZ, Nat.reduceAdd, Nat.reduceMul, Nat.reduceBEq, Nat.reduceLeDiff, Nat.reduceLT, Tryz.func8, Tryz.f8, Aa8, An8]
 try simp only [Qiv, eY]
 all_goals rfl
theorem Qka (a i) {R1 c} [H1 : EncL QcC R1 c] : LP T (n + 1) 74 3 (frm [(0, .imm 1 R1), (3, .i .i64 a), (4, .i .i64 i)]) [] =
  (run (JG c) (a, i)).map (fun (zr : Int) => (XE.exit 0, frm [(0, .imm 1 (c.map QcC)), (3, .i .i64 zr)], [])) := by
 obtain ⟨rfl⟩ := H1
 rw [QB]
 simp -dsimp only [↓evA, evB, Qm, Tryz.func74, Tryz.f74, QHv, Qwn, TP, TZ, Nat.reduceAdd, Nat.reduceMul, Nat.reduceBEq, Nat.reduceLeDiff, Nat.reduceLT]
 apply Vh a i
 intro a i
 simp -dsimp +contextual only [↓evA, eZ, Nat.reduceAdd, Nat.reduceMul, Nat.reduceBEq, Nat.reduceLeDiff, Nat.reduceLT]
 try simp only [JG, eY]
 all_goals rfl
theorem Qm8 {R1 c} [H1 : EncL QcC R1 c] : CA T (n + 2) 74 [] [.imm 1 R1] = (Qdd c).map fun r => (.ptr 0 0 0, [some (Ent.box (VP r))]) := by
 obtain ⟨rfl⟩ := H1
 rw [Qer]
 simp -dsimp +contextual (maxSteps := 100000000) only [↓evA, eZ, Nat.reduceAdd, Nat.reduceMul, Nat.reduceBEq, Nat.reduceLeDiff, Nat.reduceLT, Tryz.func74, Tryz.f74, QHv, Qwn, Qka]
 try simp only [Qdd, eY]
 all_goals rfl
theorem Qmg {R1 c} [H1 : EncR VP R1 c] : CA T (n + 1) 158 [some (Ent.box R1)] [.ptr 0 0 0] = (Z0 c).map fun r => (.i .i64 r.2, [some (Ent.box (VP r.1))]) := by
 obtain ⟨rfl⟩ := H1
 rw [Qer]
 simp -dsimp +contextual (maxSteps := 100000000) only [↓evA, eZ, Nat.reduceAdd, Nat.reduceMul, Nat.reduceBEq, Nat.reduceLeDiff, Nat.reduceLT, Tryz.func158, Tryz.f158, QJB, QsW]
 try simp only [Z0, eY]
 all_goals rfl
theorem VH (a) {R1 c} [H1 : EncR VP R1 c] : CA T (n + 2) 84 [some (Ent.box R1)] [.ptr 0 0 0, .i .i64 a] = (Ql c a).map fun r => (.i .i64 r.2, [some (Ent.box (VP r.1))]) := by
 obtain ⟨rfl⟩ := H1
 rw [Qer]
 simp -dsimp +contextual (maxSteps := 100000000) only [↓evA, eZ, Nat.reduceAdd, Nat.reduceMul, Nat.reduceBEq, Nat.reduceLeDiff, Nat.reduceLT, Tryz.func84, Tryz.f84, QPB, Qzb, srt, Qmg]
 try simp only [Ql, eY]
 all_goals rfl
theorem Qhx (i) {R1 c R2 l} [H1 : EncR VP R1 c] [H2 : EncL Vj R2 l] : LP T (n + 3) 78 3 (frm [(0, .ptr 0 0 0), (3, .sl 1), (4, .i .i64 i)]) [some (Ent.box R1), some (Ent.lst 3 R2)] =
  (run JR (c, l, i)).map (fun (zr : l1Cur × (List Slot)) => (XE.exit 0, frm [(0, .ptr 0 0 0), (3, .sl 1)], [some (Ent.box (VP zr.1)), some (Ent.lst 3 (zr.2.map Vj))])) := by
 rcases H1, H2 with ⟨⟨rfl⟩, ⟨rfl⟩⟩
 rw [QB]
 simp -dsimp only [↓evA, evB, Qm, Tryz.func78, Tryz.f78, QGI, QwY, TP, TZ, Nat.reduceAdd, Nat.reduceMul, Nat.reduceBEq, Nat.reduceLeDiff, Nat.reduceLT]
 apply Qf6 c l i
 intro c l i
 simp -dsimp +contextual only [↓evA, eZ, Nat.reduceAdd, Nat.reduceMul, Nat.reduceBEq, Nat.reduceLeDiff, Nat.reduceLT, srt, VH]
 try simp only [JR, eY]
 all_goals rfl
theorem QjQ {R1 c} [H1 : EncR VP R1 c] : CA T (n + 4) 78 [some (Ent.box R1)] [.ptr 0 0 0] = (Qbj c).map fun r => (.sl 1, [some (Ent.box (VP r.1)), some (Ent.lst 3 (r.2.map Vj))]) := by
 obtain ⟨rfl⟩ := H1
 rw [Qer]
 simp -dsimp +contextual (maxSteps := 100000000) only [↓evA, eZ, Nat.reduceAdd, Nat.reduceMul, Nat.reduceBEq, Nat.reduceLeDiff, Nat.reduceLT, Tryz.func78, Tryz.f78, QGI, QwY, srt, Qhx]
 try simp only [Qbj, eY]
 all_goals rfl
theorem Qh5 (i) {R1 l R2 o} [H1 : EncL VF R1 l] [H2 : EncL Xg R2 o] : LP T (n + 1) 161 3 (frm [(0, .imm 3 R1), (3, .sl 0), (4, .i .i64 i)]) [some (Ent.lst 3 R2)] =
  (run (Jp l) (o, i)).map (fun (zr : (List Secret)) => (XE.exit 0, frm [(3, .sl 0)], [some (Ent.lst 3 (zr.map Xg))])) := by
 rcases H1, H2 with ⟨⟨rfl⟩, ⟨rfl⟩⟩
 rw [QB]
 simp -dsimp only [↓evA, evB, Qm, Tryz.func161, Tryz.f161, QAv, Qpm, TP, TZ, Nat.reduceAdd, Nat.reduceMul, Nat.reduceBEq, Nat.reduceLeDiff, Nat.reduceLT]
 apply Vh o i
 intro o i
 simp -dsimp +contextual only [↓evA, eZ, Nat.reduceAdd, Nat.reduceMul, Nat.reduceBEq, Nat.reduceLeDiff, Nat.reduceLT]
 try simp only [Jp, eY]
 all_goals rfl
theorem QfG {R1 l} [H1 : EncL VF R1 l] : CP T (n + 2) 161 [.imm 3 R1] = (V5 l).map fun r => .own 3 (r.map Xg) := by
 obtain ⟨rfl⟩ := H1
 rw [Qg]
 simp -dsimp +contextual only [↓evA, eZ, Nat.reduceAdd, Nat.reduceMul, Nat.reduceBEq, Nat.reduceLeDiff, Nat.reduceLT, Tryz.func161, Tryz.f161, QAv, Qpm, Qh5]
 try simp only [V5, eY]
 all_goals first | rfl | (simp +contextual only [evN] <;> rfl)
theorem Vr {R1 a} [H1 : EncR QM R1 a] : CP T (n + 3) 86 [.agg R1] = (Q2 a).map fun r => .agg (Jb r) := by
 obtain ⟨rfl⟩ := H1
 rw [Qg]
 simp -dsimp +contextual (maxSteps := 100000000) only [↓evA, eZ, Nat.reduceAdd, Nat.reduceMul, Nat.reduceBEq, Nat.reduceLeDiff, Nat.reduceLT, Tryz.func86, Tryz.f86, QOD, QyF, QfG]
 try simp only [Q2, eY]
 all_goals rfl
theorem Q8 (a l m) : CP T (n + 1) 113 [.i .i64 a, .i .i64 l, .i .i64 m] = (Qc a l m).map fun r => .b r := by
 rw [Qg]
 simp -dsimp +contextual only [↓evA, eZ, Nat.reduceAdd, Nat.reduceMul, Nat.reduceBEq, Nat.reduceLeDiff, Nat.reduceLT, Tryz.func113, Tryz.f113, QIz, QrB]
 try simp only [Qc, eY]
 all_goals rfl
theorem Qdb {R1 a} [H1 : EncR Qdp R1 a] : CP T (n + 2) 166 [.agg R1] = (V8 a).map fun r => .b r := by
 obtain ⟨rfl⟩ := H1
 rw [Qg]
 simp -dsimp +contextual only [↓evA, eZ, Nat.reduceAdd, Nat.reduceMul, Nat.reduceBEq, Nat.reduceLeDiff, Nat.reduceLT, Tryz.func166, Tryz.f166, QJb, QsF, Q8]
 try simp only [V8, eY]
 all_goals rfl
theorem Qd2 {R1 f} [H1 : EncR Vk R1 f] : CP T (n + 3) 96 [.agg R1] = (VM f).map fun r => .b r := by
 obtain ⟨rfl⟩ := H1
 rw [Qg]
 simp -dsimp +contextual only [↓evA, eZ, Nat.reduceAdd, Nat.reduceMul, Nat.reduceBEq, Nat.reduceLeDiff, Nat.reduceLT, Tryz.func96, Tryz.f96, QO3, QyW, Qdb, Q8]
 try simp only [VM, eY]
 all_goals rfl
theorem Qhy (i) {R1 l} [H1 : EncL Vk R1 l] : LP T (n + 4) 32 2 (frm [(0, .imm 8 R1), (3, .i .i64 i)]) [] =
  J1 (run (QP l) i) (fun (zr : Bool) => (XE.ret, frm [(2, .b zr)], [])) (fun (zr : Unit) => (XE.exit 0, frm [(0, .imm 8 (l.map Vk))], [])) := by
 obtain ⟨rfl⟩ := H1
 rw [QB]
 simp -dsimp only [↓evA, evB, Qm, Tryz.func32, Tryz.f32, QK8, Qxi, TP, TZ, Nat.reduceAdd, Nat.reduceMul, Nat.reduceBEq, Nat.reduceLeDiff, Nat.reduceLT]
 apply Qq i
 intro i
 simp -dsimp +contextual only [↓evA, eZ, Nat.reduceAdd, Nat.reduceMul, Nat.reduceBEq, Nat.reduceLeDiff, Nat.reduceLT, Qd2]
 try simp only [QP, eY]
 all_goals rfl
theorem Qfh {R1 l} [H1 : EncL Vk R1 l] : CP T (n + 5) 32 [.imm 8 R1] = (XX l).map fun r => .b r := by
 obtain ⟨rfl⟩ := H1
 rw [Qg]
 simp -dsimp +contextual only [↓evA, eZ, Nat.reduceAdd, Nat.reduceMul, Nat.reduceBEq, Nat.reduceLeDiff, Nat.reduceLT, Tryz.func32, Tryz.f32, QK8, Qxi, Qhy]
 try simp only [XX, eY]
 all_goals rfl
theorem Qhz (i) {R1 l} [H1 : EncL Xu R1 l] : LP T (n + 2) 182 2 (frm [(0, .imm 2 R1), (3, .i .i64 i)]) [] =
  J1 (run (JO l) i) (fun (zr : Bool) => (XE.ret, frm [(2, .b zr)], [])) (fun (zr : Unit) => (XE.exit 0, frm [(0, .imm 2 (l.map Xu))], [])) := by
 obtain ⟨rfl⟩ := H1
 rw [QB]
 simp -dsimp only [↓evA, evB, Qm, Tryz.func182, Tryz.f182, Qz5, QoG, TP, TZ, Nat.reduceAdd, Nat.reduceMul, Nat.reduceBEq, Nat.reduceLeDiff, Nat.reduceLT]
 apply Qq i
 intro i
 simp -dsimp +contextual only [↓evA, eZ, Nat.reduceAdd, Nat.reduceMul, Nat.reduceBEq, Nat.reduceLeDiff, Nat.reduceLT, Q8]
 try simp only [JO, eY]
 all_goals rfl
theorem QcO {R1 l} [H1 : EncL Xu R1 l] : CP T (n + 3) 182 [.imm 2 R1] = (Qav l).map fun r => .b r := by
 obtain ⟨rfl⟩ := H1
 rw [Qg]
 simp -dsimp +contextual only [↓evA, eZ, Nat.reduceAdd, Nat.reduceMul, Nat.reduceBEq, Nat.reduceLeDiff, Nat.reduceLT, Tryz.func182, Tryz.f182, Qz5, QoG, Qhz]
 try simp only [Qav, eY]
 all_goals rfl
theorem QfA (a) {R1 l} [H1 : EncL VF R1 l] : LP T (n + 4) 114 2 (frm [(0, .imm 3 R1), (3, .i .i64 a)]) [] =
  J1 (run (Xc l) a) (fun (zr : Bool) => (XE.ret, frm [(2, .b zr)], [])) (fun (zr : Unit) => (XE.exit 0, frm [(0, .imm 3 (l.map VF))], [])) := by
 obtain ⟨rfl⟩ := H1
 rw [QB]
 simp -dsimp only [↓evA, evB, Qm, Tryz.func114, Tryz.f114, QAi, Qp8, TP, TZ, Nat.reduceAdd, Nat.reduceMul, Nat.reduceBEq, Nat.reduceLeDiff, Nat.reduceLT]
 apply Qq a
 intro a
 simp -dsimp +contextual only [↓evA, eZ, Nat.reduceAdd, Nat.reduceMul, Nat.reduceBEq, Nat.reduceLeDiff, Nat.reduceLT, Q8, QcO]
 try simp only [Xc, eY]
 all_goals rfl
theorem QdL {R1 l} [H1 : EncL VF R1 l] : CP T (n + 5) 114 [.imm 3 R1] = (Jq l).map fun r => .b r := by
 obtain ⟨rfl⟩ := H1
 rw [Qg]
 simp -dsimp +contextual only [↓evA, eZ, Nat.reduceAdd, Nat.reduceMul, Nat.reduceBEq, Nat.reduceLeDiff, Nat.reduceLT, Tryz.func114, Tryz.f114, QAi, Qp8, QfA]
 try simp only [Jq, eY]
 all_goals rfl
theorem Qg6 (a a2) {R1 l} [H1 : EncL Vj R1 l] : LP T (n + 1) 115 7 (frm [(0, .imm 3 R1), (3, .i .i64 a), (4, .i .i64 a2)]) [] =
  J1 (run (XO l a) a2) (fun (zr : Bool) => (XE.ret, frm [(2, .b zr)], [])) (fun (zr : Unit) => (XE.exit 2, frm [(0, .imm 3 (l.map Vj)), (3, .i .i64 a)], [])) := by
 obtain ⟨rfl⟩ := H1
 rw [QB]
 simp -dsimp only [↓evA, evB, Qm, Tryz.func115, Tryz.f115, Qu5, QmQ, TP, TZ, Nat.reduceAdd, Nat.reduceMul, Nat.reduceBEq, Nat.reduceLeDiff, Nat.reduceLT]
 apply Qq a2
 intro a2
 simp -dsimp +contextual only [↓evA, eZ, Nat.reduceAdd, Nat.reduceMul, Nat.reduceBEq, Nat.reduceLeDiff, Nat.reduceLT]
 try simp only [XO, eY]
 all_goals rfl
theorem Qht (a) {R1 l} [H1 : EncL Vj R1 l] : LP T (n + 2) 115 2 (frm [(0, .imm 3 R1), (3, .i .i64 a)]) [] =
  J1 (run (VQ l) a) (fun (zr : Bool) => (XE.ret, frm [(2, .b zr)], [])) (fun (zr : Unit) => (XE.exit 0, frm [(0, .imm 3 (l.map Vj))], [])) := by
 obtain ⟨rfl⟩ := H1
 rw [QB]
 simp -dsimp only [↓evA, evB, Qm, Tryz.func115, Tryz.f115, Qu5, QmQ, TP, TZ, Nat.reduceAdd, Nat.reduceMul, Nat.reduceBEq, Nat.reduceLeDiff, Nat.reduceLT]
 apply Qq a
 intro a
 simp -dsimp +contextual only [↓evA, eZ, Nat.reduceAdd, Nat.reduceMul, Nat.reduceBEq, Nat.reduceLeDiff, Nat.reduceLT, Q8, Qg6]
 try simp only [VQ, eY]
 all_goals rfl
theorem QcM {R1 l} [H1 : EncL Vj R1 l] : CP T (n + 3) 115 [.imm 3 R1] = (JE l).map fun r => .b r := by
 obtain ⟨rfl⟩ := H1
 rw [Qg]
 simp -dsimp +contextual only [↓evA, eZ, Nat.reduceAdd, Nat.reduceMul, Nat.reduceBEq, Nat.reduceLeDiff, Nat.reduceLT, Tryz.func115, Tryz.f115, Qu5, QmQ, Qht]
 try simp only [JE, eY]
 all_goals rfl
theorem QgO (a a3) {R1 l R2 a2} [H1 : EncL QC R1 l] [H2 : EncR QC R2 a2] : LP T (n + 1) 116 8 (frm [(0, .imm 5 R1), (3, .i .i64 a), (4, .ptr 0 0 0), (5, .i .i64 a3)]) [some (Ent.box R2)] =
  J1 (run (Xp l a a2) a3) (fun (zr : Bool) => (XE.ret, frm [(2, .b zr)], [])) (fun (zr : Unit) => (XE.exit 2, frm [(0, .imm 5 (l.map QC)), (3, .i .i64 a)], [])) := by
 rcases H1, H2 with ⟨⟨rfl⟩, ⟨rfl⟩⟩
 rw [QB]
 simp -dsimp only [↓evA, evB, Qm, Tryz.func116, Tryz.f116, Qux, Qm7, TP, TZ, Nat.reduceAdd, Nat.reduceMul, Nat.reduceBEq, Nat.reduceLeDiff, Nat.reduceLT]
 apply Qq a3
 intro a3
 simp -dsimp +contextual only [↓evA, eZ, Nat.reduceAdd, Nat.reduceMul, Nat.reduceBEq, Nat.reduceLeDiff, Nat.reduceLT]
 try simp only [Xp, eY]
 all_goals rfl
theorem Qgt (a) {R1 l} [H1 : EncL QC R1 l] : LP T (n + 2) 116 2 (frm [(0, .imm 5 R1), (3, .i .i64 a)]) [] =
  J1 (run (Q0 l) a) (fun (zr : Bool) => (XE.ret, frm [(2, .b zr)], [])) (fun (zr : Unit) => (XE.exit 0, frm [(0, .imm 5 (l.map QC))], [])) := by
 obtain ⟨rfl⟩ := H1
 rw [QB]
 simp -dsimp only [↓evA, evB, Qm, Tryz.func116, Tryz.f116, Qux, Qm7, TP, TZ, Nat.reduceAdd, Nat.reduceMul, Nat.reduceBEq, Nat.reduceLeDiff, Nat.reduceLT]
 apply Qq a
 intro a
 simp -dsimp +contextual only [↓evA, eZ, Nat.reduceAdd, Nat.reduceMul, Nat.reduceBEq, Nat.reduceLeDiff, Nat.reduceLT, Q8, QgO]
 try simp only [Q0, eY]
 all_goals rfl
theorem Qcj {R1 l} [H1 : EncL QC R1 l] : CP T (n + 3) 116 [.imm 5 R1] = (QV l).map fun r => .b r := by
 obtain ⟨rfl⟩ := H1
 rw [Qg]
 simp -dsimp +contextual only [↓evA, eZ, Nat.reduceAdd, Nat.reduceMul, Nat.reduceBEq, Nat.reduceLeDiff, Nat.reduceLT, Tryz.func116, Tryz.f116, Qux, Qm7, Qgt]
 try simp only [QV, eY]
 all_goals rfl
theorem Qle (a m) : CP T (n + 2) 305 [.i .i64 a, .i .i64 m] = (QbN a m).map fun r => .i .i64 r := by
 rw [Qg]
 simp -dsimp +contextual only [↓evA, eZ, Nat.reduceAdd, Nat.reduceMul, Nat.reduceBEq, Nat.reduceLeDiff, Nat.reduceLT, Tryz.func305, Tryz.f305, QFK, Qro, Q8]
 try simp only [QbN, eY]
 all_goals rfl
theorem QlM (d i) {R1 l} [H1 : EncL QU R1 l] : LP T (n + 3) 258 3 (frm [(0, .imm 1 R1), (3, .i .i64 d), (4, .i .i64 i)]) [] =
  (run (V6 l) (d, i)).map (fun (zr : Int) => (XE.exit 0, frm [(3, .i .i64 zr)], [])) := by
 obtain ⟨rfl⟩ := H1
 rw [QB]
 simp -dsimp only [↓evA, evB, Qm, Tryz.func258, Tryz.f258, QAw, QoI, TP, TZ, Nat.reduceAdd, Nat.reduceMul, Nat.reduceBEq, Nat.reduceLeDiff, Nat.reduceLT]
 apply Vh d i
 intro d i
 simp -dsimp +contextual only [↓evA, eZ, Nat.reduceAdd, Nat.reduceMul, Nat.reduceBEq, Nat.reduceLeDiff, Nat.reduceLT, Qle]
 try simp only [V6, eY]
 all_goals rfl
theorem Qft {R1 l} [H1 : EncL QU R1 l] : CP T (n + 4) 258 [.imm 1 R1] = (J9 l).map fun r => .i .i64 r := by
 obtain ⟨rfl⟩ := H1
 rw [Qg]
 simp -dsimp +contextual only [↓evA, eZ, Nat.reduceAdd, Nat.reduceMul, Nat.reduceBEq, Nat.reduceLeDiff, Nat.reduceLT, Tryz.func258, Tryz.f258, QAw, QoI, QlM]
 try simp only [J9, eY]
 all_goals rfl
theorem Qff (b) {R1 a} [H1 : EncR VE R1 a] : CP T (n + 5) 183 [.i .i64 b, .agg R1] = (JF b a).map fun r => .i .i64 r := by
 obtain ⟨rfl⟩ := H1
 rw [Qg]
 simp -dsimp +contextual only [↓evA, eZ, Nat.reduceAdd, Nat.reduceMul, Nat.reduceBEq, Nat.reduceLeDiff, Nat.reduceLT, Tryz.func183, Tryz.f183, QHn, Qr3, Qft]
 try simp only [JF, eY]
 all_goals rfl
theorem QhW (a b k i) {R1 l} [H1 : EncL VE R1 l] : LP T (n + 1) 184 3 (frm [(0, .imm 5 R1), (1, .i .i64 a), (2, .i .i64 b), (7, .i .i64 k), (8, .i .i64 i)]) [] =
  (run (Jx l a b) (k, i)).map (fun (zr : Int) => (XE.exit 0, frm [(7, .i .i64 zr)], [])) := by
 obtain ⟨rfl⟩ := H1
 rw [QB]
 simp -dsimp only [↓evA, evB, Qm, Tryz.func184, Tryz.f184, QAY, Qp2, TP, TZ, Nat.reduceAdd, Nat.reduceMul, Nat.reduceBEq, Nat.reduceLeDiff, Nat.reduceLT]
 apply Vh k i
 intro k i
 simp -dsimp +contextual only [↓evA, eZ, Nat.reduceAdd, Nat.reduceMul, Nat.reduceBEq, Nat.reduceLeDiff, Nat.reduceLT]
 try simp only [Jx, eY]
 all_goals rfl
theorem QfC (a b) {R1 l} [H1 : EncL VE R1 l] : CP T (n + 2) 184 [.imm 5 R1, .i .i64 a, .i .i64 b] = (QaZ l a b).map fun r => .i .i64 r := by
 obtain ⟨rfl⟩ := H1
 rw [Qg]
 simp -dsimp +contextual only [↓evA, eZ, Nat.reduceAdd, Nat.reduceMul, Nat.reduceBEq, Nat.reduceLeDiff, Nat.reduceLT, Tryz.func184, Tryz.f184, QAY, Qp2, QhW]
 try simp only [QaZ, eY]
 all_goals rfl
theorem Qic (a a2) {R1 l} [H1 : EncL VE R1 l] : LP T (n + 6) 117 3 (frm [(0, .imm 5 R1), (3, .i .i64 a), (4, .i .i64 a2)]) [] =
  J1 (run (Qz l) (a, a2)) (fun (zr : Bool) => (XE.ret, frm [(2, .b zr)], [])) (fun (zr : Unit) => (XE.exit 0, frm [(0, .imm 5 (l.map VE))], [])) := by
 obtain ⟨rfl⟩ := H1
 rw [QB]
 simp -dsimp only [↓evA, evB, Qm, Tryz.func117, Tryz.f117, Qz4, Qpo, TP, TZ, Nat.reduceAdd, Nat.reduceMul, Nat.reduceBEq, Nat.reduceLeDiff, Nat.reduceLT]
 apply Vh a a2
 intro a a2
 simp -dsimp +contextual only [↓evA, eZ, Nat.reduceAdd, Nat.reduceMul, Nat.reduceBEq, Nat.reduceLeDiff, Nat.reduceLT, Qff, Q8, QfC]
 try simp only [Qz, eY]
 all_goals rfl
theorem Qdc {R1 l} [H1 : EncL VE R1 l] : CP T (n + 7) 117 [.imm 5 R1] = (Vy l).map fun r => .b r := by
 obtain ⟨rfl⟩ := H1
 rw [Qg]
 simp -dsimp +contextual only [↓evA, eZ, Nat.reduceAdd, Nat.reduceMul, Nat.reduceBEq, Nat.reduceLeDiff, Nat.reduceLT, Tryz.func117, Tryz.f117, Qz4, Qpo, Qic]
 try simp only [Vy, eY]
 all_goals rfl
theorem Qf9 (i) {R1 l} [H1 : EncL Vw R1 l] : LP T (n + 2) 118 2 (frm [(0, .imm 4 R1), (3, .i .i64 i)]) [] =
  J1 (run (Xa l) i) (fun (zr : Bool) => (XE.ret, frm [(2, .b zr)], [])) (fun (zr : Unit) => (XE.exit 0, frm [(0, .imm 4 (l.map Vw))], [])) := by
 obtain ⟨rfl⟩ := H1
 rw [QB]
 simp -dsimp only [↓evA, evB, Qm, Tryz.func118, Tryz.f118, Qz1, QpP, TP, TZ, Nat.reduceAdd, Nat.reduceMul, Nat.reduceBEq, Nat.reduceLeDiff, Nat.reduceLT]
 apply Qq i
 intro i
 simp -dsimp +contextual only [↓evA, eZ, Nat.reduceAdd, Nat.reduceMul, Nat.reduceBEq, Nat.reduceLeDiff, Nat.reduceLT, Q8]
 try simp only [Xa, eY]
 all_goals rfl
theorem Qdy {R1 l} [H1 : EncL Vw R1 l] : CP T (n + 3) 118 [.imm 4 R1] = (V3 l).map fun r => .b r := by
 obtain ⟨rfl⟩ := H1
 rw [Qg]
 simp -dsimp +contextual only [↓evA, eZ, Nat.reduceAdd, Nat.reduceMul, Nat.reduceBEq, Nat.reduceLeDiff, Nat.reduceLT, Tryz.func118, Tryz.f118, Qz1, QpP, Qf9]
 try simp only [V3, eY]
 all_goals rfl
theorem Qkc (a k) {R1 l} [H1 : EncL QU R1 l] : LP T (n + 1) 259 2 (frm [(0, .imm 1 R1), (1, .i .i64 a), (5, .i .i64 k)]) [] =
  (run (Vs l a) k).map (fun (zr : Int) => (XE.exit 0, frm [(0, .imm 1 (l.map QU)), (1, .i .i64 a), (5, .i .i64 zr)], [])) := by
 obtain ⟨rfl⟩ := H1
 rw [QB]
 simp -dsimp only [↓evA, evB, Qm, Tryz.func259, Tryz.f259, QA5, Qol, TP, TZ, Nat.reduceAdd, Nat.reduceMul, Nat.reduceBEq, Nat.reduceLeDiff, Nat.reduceLT]
 apply Qq k
 intro k
 simp -dsimp +contextual only [↓evA, eZ, Nat.reduceAdd, Nat.reduceMul, Nat.reduceBEq, Nat.reduceLeDiff, Nat.reduceLT]
 try simp only [Vs, eY]
 try simp only [List.contains_nil, Bool.not_false, Bool.and_true, VG, List.length_append, List.length_cons, List.length_nil, Nat.zero_add, VT, Xj]
 all_goals rfl
theorem QnD (a) {R1 l} [H1 : EncL QU R1 l] : CP T (n + 2) 259 [.imm 1 R1, .i .i64 a] = (JW l a).map fun r => .own 1 (r.map QU) := by
 obtain ⟨rfl⟩ := H1
 rw [Qg]
 simp -dsimp +contextual only [↓evA, eZ, Nat.reduceAdd, Nat.reduceMul, Nat.reduceBEq, Nat.reduceLeDiff, Nat.reduceLT, Tryz.func259, Tryz.f259, QA5, Qol, Qkc]
 try simp only [JW, eY]
 try simp only [List.contains_nil, Bool.not_false, Bool.and_true, VG, List.length_append, List.length_cons, List.length_nil, Nat.zero_add, VT, Xj]
 all_goals first | rfl | (simp +contextual only [evN] <;> rfl)
theorem QiA (a i) {R1 l R2 o} [H1 : EncL VE R1 l] [H2 : EncL QU R2 o] : LP T (n + 8) 185 3 (frm [(0, .imm 5 R1), (1, .i .i64 a), (5, .sl 0), (6, .i .i64 i)]) [some (Ent.lst 1 R2)] =
  (run (J7 l a) (o, i)).map (fun (zr : (List Int)) => (XE.exit 0, frm [(5, .sl 0)], [some (Ent.lst 1 (zr.map QU))])) := by
 rcases H1, H2 with ⟨⟨rfl⟩, ⟨rfl⟩⟩
 rw [QB]
 simp -dsimp only [↓evA, evB, Qm, Tryz.func185, Tryz.f185, QAt, Qoa, TP, TZ, Nat.reduceAdd, Nat.reduceMul, Nat.reduceBEq, Nat.reduceLeDiff, Nat.reduceLT]
 apply Vh o i
 intro o i
 simp -dsimp +contextual only [↓evA, eZ, Nat.reduceAdd, Nat.reduceMul, Nat.reduceBEq, Nat.reduceLeDiff, Nat.reduceLT, Qdc, QfC, QnD]
 try simp only [J7, eY]
 all_goals rfl
theorem Qk9 (a) {R1 l} [H1 : EncL VE R1 l] : CP T (n + 9) 185 [.imm 5 R1, .i .i64 a] = (Qa4 l a).map fun r => .own 1 (r.map QU) := by
 obtain ⟨rfl⟩ := H1
 rw [Qg]
 simp -dsimp +contextual only [↓evA, eZ, Nat.reduceAdd, Nat.reduceMul, Nat.reduceBEq, Nat.reduceLeDiff, Nat.reduceLT, Tryz.func185, Tryz.f185, QAt, Qoa, QiA]
 try simp only [Qa4, eY]
 all_goals first | rfl | (simp +contextual only [evN] <;> rfl)
theorem Qgx (i i2) {R1 l} [H1 : EncL Vk R1 l] : LP T (n + 1) 186 2 (frm [(0, .imm 8 R1), (1, .i .i64 i), (5, .i .i64 i2)]) [] =
  J1 (run (Ja l i) i2) (fun (zr : Int) => (XE.ret, frm [(4, .i .i64 zr)], [])) (fun (zr : Unit) => (XE.exit 0, frm [], [])) := by
 obtain ⟨rfl⟩ := H1
 rw [QB]
 simp -dsimp only [↓evA, evB, Qm, Tryz.func186, Tryz.f186, QAA, Qox, TP, TZ, Nat.reduceAdd, Nat.reduceMul, Nat.reduceBEq, Nat.reduceLeDiff, Nat.reduceLT]
 apply Qq i2
 intro i2
 simp -dsimp +contextual only [↓evA, eZ, Nat.reduceAdd, Nat.reduceMul, Nat.reduceBEq, Nat.reduceLeDiff, Nat.reduceLT]
 try simp only [Ja, eY]
 all_goals rfl
theorem JS (i) {R1 l} [H1 : EncL Vk R1 l] : CP T (n + 2) 186 [.imm 8 R1, .i .i64 i] = (Vp l i).map fun r => .i .i64 r := by
 obtain ⟨rfl⟩ := H1
 rw [Qg]
 simp -dsimp +contextual only [↓evA, eZ, Nat.reduceAdd, Nat.reduceMul, Nat.reduceBEq, Nat.reduceLeDiff, Nat.reduceLT, Tryz.func186, Tryz.f186, QAA, Qox, Qgx]
 try simp only [Vp, eY]
 all_goals rfl
theorem Qjp (a i) {R1 l} [H1 : EncL Vj R1 l] : LP T (n + 1) 187 2 (frm [(0, .imm 3 R1), (1, .i .i64 a), (5, .i .i64 i)]) [] =
  J1 (run (Xm l a) i) (fun (zr : Int) => (XE.ret, frm [(4, .i .i64 zr)], [])) (fun (zr : Unit) => (XE.exit 0, frm [], [])) := by
 obtain ⟨rfl⟩ := H1
 rw [QB]
 simp -dsimp only [↓evA, evB, Qm, Tryz.func187, Tryz.f187, QAJ, Qp7, TP, TZ, Nat.reduceAdd, Nat.reduceMul, Nat.reduceBEq, Nat.reduceLeDiff, Nat.reduceLT]
 apply Qq i
 intro i
 simp -dsimp +contextual only [↓evA, eZ, Nat.reduceAdd, Nat.reduceMul, Nat.reduceBEq, Nat.reduceLeDiff, Nat.reduceLT]
 try simp only [Xm, eY]
 all_goals rfl
theorem Qcv (a) {R1 l} [H1 : EncL Vj R1 l] : CP T (n + 2) 187 [.imm 3 R1, .i .i64 a] = (XB l a).map fun r => .i .i64 r := by
 obtain ⟨rfl⟩ := H1
 rw [Qg]
 simp -dsimp +contextual only [↓evA, eZ, Nat.reduceAdd, Nat.reduceMul, Nat.reduceBEq, Nat.reduceLeDiff, Nat.reduceLT, Tryz.func187, Tryz.f187, QAJ, Qp7, Qjp]
 try simp only [XB, eY]
 all_goals rfl
theorem Qj7 (a i) {R1 l} [H1 : EncL QU R1 l] : LP T (n + 1) 188 2 (frm [(0, .imm 1 R1), (1, .i .i64 a), (5, .i .i64 i)]) [] =
  J1 (run (Qas l a) i) (fun (zr : Bool) => (XE.ret, frm [(4, .b zr)], [])) (fun (zr : Unit) => (XE.exit 0, frm [], [])) := by
 obtain ⟨rfl⟩ := H1
 rw [QB]
 simp -dsimp only [↓evA, evB, Qm, Tryz.func188, Tryz.f188, QzY, QoB, TP, TZ, Nat.reduceAdd, Nat.reduceMul, Nat.reduceBEq, Nat.reduceLeDiff, Nat.reduceLT]
 apply Qq i
 intro i
 simp -dsimp +contextual only [↓evA, eZ, Nat.reduceAdd, Nat.reduceMul, Nat.reduceBEq, Nat.reduceLeDiff, Nat.reduceLT]
 try simp only [Qas, eY]
 all_goals rfl
theorem Qny (a) {R1 l} [H1 : EncL QU R1 l] : CP T (n + 2) 188 [.imm 1 R1, .i .i64 a] = (Qcl l a).map fun r => .b r := by
 obtain ⟨rfl⟩ := H1
 rw [Qg]
 simp -dsimp +contextual only [↓evA, eZ, Nat.reduceAdd, Nat.reduceMul, Nat.reduceBEq, Nat.reduceLeDiff, Nat.reduceLT, Tryz.func188, Tryz.f188, QzY, QoB, Qj7]
 try simp only [Qcl, eY]
 all_goals rfl
theorem QgA (a3) {R1 a R2 a2} [H1 : EncR QM R1 a] [H2 : EncL QU R2 a2] : LP T (n + 3) 119 5 (frm [(1, .ptr 0 0 0), (3, .sl 1), (4, .i .i64 a3)]) [some (Ent.box R1), some (Ent.lst 1 R2)] =
  J1 (run (Jm a a2) a3) (fun (zr : Bool) => (XE.ret, frm [(2, .b zr)], [])) (fun (zr : Unit) => (XE.exit 0, frm [(1, .ptr 0 0 0), (3, .sl 1)], [some (Ent.box (QM a)), some (Ent.lst 1 (a2.map QU))])) := by
 rcases H1, H2 with ⟨⟨rfl⟩, ⟨rfl⟩⟩
 rw [QB]
 simp -dsimp only [↓evA, evB, Qm, Tryz.func119, Tryz.f119, QrY, Qlm, TP, TZ, Nat.reduceAdd, Nat.reduceMul, Nat.reduceBEq, Nat.reduceLeDiff, Nat.reduceLT]
 apply Qq a3
 intro a3
 simp -dsimp +contextual (maxSteps := 100000000) only [↓evA, eZ, Nat.reduceAdd, Nat.reduceMul, Nat.reduceBEq, Nat.reduceLeDiff, Nat.reduceLT, JS]
 try simp only [Jm, eY]
 all_goals rfl
theorem Qf2 (a3) {R1 a R2 a2} [H1 : EncR QM R1 a] [H2 : EncL QU R2 a2] : LP T (n + 3) 119 10 (frm [(1, .ptr 0 0 0), (3, .sl 1), (5, .i .i64 a3)]) [some (Ent.box R1), some (Ent.lst 1 R2)] =
  J1 (run (XI a a2) a3) (fun (zr : Bool) => (XE.ret, frm [(2, .b zr)], [])) (fun (zr : Unit) => (XE.exit 2, frm [(1, .ptr 0 0 0)], [some (Ent.box (QM a))])) := by
 rcases H1, H2 with ⟨⟨rfl⟩, ⟨rfl⟩⟩
 rw [QB]
 simp -dsimp only [↓evA, evB, Qm, Tryz.func119, Tryz.f119, QrY, Qlm, TP, TZ, Nat.reduceAdd, Nat.reduceMul, Nat.reduceBEq, Nat.reduceLeDiff, Nat.reduceLT]
 apply Qq a3
 intro a3
 simp -dsimp +contextual (maxSteps := 100000000) only [↓evA, eZ, Nat.reduceAdd, Nat.reduceMul, Nat.reduceBEq, Nat.reduceLeDiff, Nat.reduceLT, Qcv, Qny]
 try simp only [XI, eY]
 all_goals rfl
theorem Qf8 (a2) {R1 a} [H1 : EncR QM R1 a] : LP T (n + 3) 119 16 (frm [(1, .ptr 0 0 0), (7, .i .i64 a2)]) [some (Ent.box R1)] =
  J1 (run (XN a) a2) (fun (zr : Bool) => (XE.ret, frm [(2, .b zr)], [])) (fun (zr : Unit) => (XE.exit 4, frm [], [])) := by
 obtain ⟨rfl⟩ := H1
 rw [QB]
 simp -dsimp only [↓evA, evB, Qm, Tryz.func119, Tryz.f119, QrY, Qlm, TP, TZ, Nat.reduceAdd, Nat.reduceMul, Nat.reduceBEq, Nat.reduceLeDiff, Nat.reduceLT]
 apply Qq a2
 intro a2
 simp -dsimp +contextual (maxSteps := 100000000) only [↓evA, eZ, Nat.reduceAdd, Nat.reduceMul, Nat.reduceBEq, Nat.reduceLeDiff, Nat.reduceLT, JS]
 try simp only [XN, eY]
 all_goals rfl
theorem QiN {R1 a} [H1 : EncR QM R1 a] : CP T (n + 10) 119 [.agg R1] = (ZN a).map fun r => .b r := by
 obtain ⟨rfl⟩ := H1
 rw [Qg]
 simp -dsimp +contextual (maxSteps := 100000000) only [↓evA, eZ, Nat.reduceAdd, Nat.reduceMul, Nat.reduceBEq, Nat.reduceLeDiff, Nat.reduceLT, Tryz.func119, Tryz.f119, QrY, Qlm, Qk9, QgA, Qf2, Qf8]
 try simp only [ZN, eY]
 all_goals rfl
theorem QfX {R1 a} [H1 : EncR XT R1 a] : CP T (n + 2) 189 [.agg R1] = (Z8 a).map fun r => .b r := by
 obtain ⟨rfl⟩ := H1
 rw [Qg]
 simp -dsimp +contextual only [↓evA, eZ, Nat.reduceAdd, Nat.reduceMul, Nat.reduceBEq, Nat.reduceLeDiff, Nat.reduceLT, Tryz.func189, Tryz.f189, QIs, Qsi, Q8]
 try simp only [Z8, eY]
 all_goals rfl
theorem Qit (a i) {R1 l} [H1 : EncL VF R1 l] : LP T (n + 1) 261 2 (frm [(0, .imm 3 R1), (1, .i .i64 a), (5, .i .i64 i)]) [] =
  J1 (run (Zc l a) i) (fun (zr : Int) => (XE.ret, frm [(4, .i .i64 zr)], [])) (fun (zr : Unit) => (XE.exit 0, frm [], [])) := by
 obtain ⟨rfl⟩ := H1
 rw [QB]
 simp -dsimp only [↓evA, evB, Qm, Tryz.func261, Tryz.f261, QAZ, QpZ, TP, TZ, Nat.reduceAdd, Nat.reduceMul, Nat.reduceBEq, Nat.reduceLeDiff, Nat.reduceLT]
 apply Qq i
 intro i
 simp -dsimp +contextual only [↓evA, eZ, Nat.reduceAdd, Nat.reduceMul, Nat.reduceBEq, Nat.reduceLeDiff, Nat.reduceLT]
 try simp only [Zc, eY]
 all_goals rfl
theorem Qk8 (a) {R1 l} [H1 : EncL VF R1 l] : CP T (n + 2) 261 [.imm 3 R1, .i .i64 a] = (Qc1 l a).map fun r => .i .i64 r := by
 obtain ⟨rfl⟩ := H1
 rw [Qg]
 simp -dsimp +contextual only [↓evA, eZ, Nat.reduceAdd, Nat.reduceMul, Nat.reduceBEq, Nat.reduceLeDiff, Nat.reduceLT, Tryz.func261, Tryz.f261, QAZ, QpZ, Qit]
 try simp only [Qc1, eY]
 all_goals rfl
theorem Qf3 (a) {R1 l} [H1 : EncL VF R1 l] : CP T (n + 3) 191 [.imm 3 R1, .i .i64 a] = (QaV l a).map fun r => .own 2 (r.map Xu) := by
 obtain ⟨rfl⟩ := H1
 rw [Qg]
 simp -dsimp +contextual only [↓evA, eZ, Nat.reduceAdd, Nat.reduceMul, Nat.reduceBEq, Nat.reduceLeDiff, Nat.reduceLT, Tryz.func191, Tryz.f191, QEI, QrH, Qk8]
 try simp only [QaV, eY]
 all_goals first | rfl | (simp +contextual only [evN] <;> rfl)
theorem QlV (a b) : CP T (n + 1) 176 [.i .i64 a, .i .i64 b] = (Qef a b).map fun r => .i .i64 r := by
 rw [Qg]
 simp -dsimp +contextual only [↓evA, eZ, Nat.reduceAdd, Nat.reduceMul, Nat.reduceBEq, Nat.reduceLeDiff, Nat.reduceLT, Tryz.func176, Tryz.f176, QGV, Qsq]
 try simp only [Qef, eY]
 all_goals rfl
theorem Qlg {R1 l} [H1 : EncL Xu R1 l] : CP T (n + 2) 260 [.imm 2 R1] = (Qb2 l).map fun r => .i .i64 r := by
 obtain ⟨rfl⟩ := H1
 rw [Qg]
 simp -dsimp +contextual only [↓evA, eZ, Nat.reduceAdd, Nat.reduceMul, Nat.reduceBEq, Nat.reduceLeDiff, Nat.reduceLT, Tryz.func260, Tryz.f260, QHX, Qrn, QlV]
 try simp only [Qb2, eY]
 all_goals rfl
theorem Qb6 {R1 l R2 a} [H1 : EncL Xu R1 l] [H2 : EncR XT R2 a] : CP T (n + 4) 190 [.imm 2 R1, .agg R2] = (Jv l a).map fun r => .i .i64 r := by
 rcases H1, H2 with ⟨⟨rfl⟩, ⟨rfl⟩⟩
 rw [Qg]
 simp -dsimp +contextual only [↓evA, eZ, Nat.reduceAdd, Nat.reduceMul, Nat.reduceBEq, Nat.reduceLeDiff, Nat.reduceLT, Tryz.func190, Tryz.f190, QJq, Qr0, QfX, QcO, Qlg]
 try simp only [Jv, eY]
 all_goals rfl
theorem QgH (a2) {R1 a} [H1 : EncR QM R1 a] : LP T (n + 5) 120 4 (frm [(1, .ptr 0 0 0), (3, .i .i64 a2)]) [some (Ent.box R1)] =
  J1 (run (Jc a) a2) (fun (zr : Bool) => (XE.ret, frm [(2, .b zr)], [])) (fun (zr : Unit) => (XE.exit 0, frm [], [])) := by
 obtain ⟨rfl⟩ := H1
 rw [QB]
 simp -dsimp only [↓evA, evB, Qm, Tryz.func120, Tryz.f120, QAW, QpS, TP, TZ, Nat.reduceAdd, Nat.reduceMul, Nat.reduceBEq, Nat.reduceLeDiff, Nat.reduceLT]
 apply Qq a2
 intro a2
 simp -dsimp +contextual (maxSteps := 100000000) only [↓evA, eZ, Nat.reduceAdd, Nat.reduceMul, Nat.reduceBEq, Nat.reduceLeDiff, Nat.reduceLT, JS, QfX, Qf3, Qb6]
 try simp only [Jc, eY]
 all_goals rfl
theorem Qi2 {R1 a} [H1 : EncR QM R1 a] : CP T (n + 6) 120 [.agg R1] = (ZT a).map fun r => .b r := by
 obtain ⟨rfl⟩ := H1
 rw [Qg]
 simp -dsimp +contextual (maxSteps := 100000000) only [↓evA, eZ, Nat.reduceAdd, Nat.reduceMul, Nat.reduceBEq, Nat.reduceLeDiff, Nat.reduceLT, Tryz.func120, Tryz.f120, QAW, QpS, QgH]
 try simp only [ZT, eY]
 all_goals rfl
theorem ZV {R1 a} [H1 : EncR QM R1 a] : CP T (n + 11) 52 [.agg R1] = (Vn a).map fun r => .b r := by
 obtain ⟨rfl⟩ := H1
 rw [Qg]
 simp -dsimp +contextual (maxSteps := 100000000) only [↓evA, eZ, Nat.reduceAdd, Nat.reduceMul, Nat.reduceBEq, Nat.reduceLeDiff, Nat.reduceLT, Tryz.func52, Tryz.f52, QLI, Qzh, Q8, Qfh, QdL, QcM, Qcj, Qdc, Qdy, QiN, Qi2]
 try simp only [Vn, eY]
 all_goals rfl
theorem QgK (a i) {R1 l} [H1 : EncL Vj R1 l] : LP T (n + 1) 234 3 (frm [(0, .imm 3 R1), (3, .i .i64 a), (4, .i .i64 i)]) [] =
  (run (Xt l) (a, i)).map (fun (zr : Int) => (XE.exit 0, frm [(3, .i .i64 zr)], [])) := by
 obtain ⟨rfl⟩ := H1
 rw [QB]
 simp -dsimp only [↓evA, evB, Qm, Tryz.func234, Tryz.f234, QAQ, QpO, TP, TZ, Nat.reduceAdd, Nat.reduceMul, Nat.reduceBEq, Nat.reduceLeDiff, Nat.reduceLT]
 apply Vh a i
 intro a i
 simp -dsimp +contextual only [↓evA, eZ, Nat.reduceAdd, Nat.reduceMul, Nat.reduceBEq, Nat.reduceLeDiff, Nat.reduceLT]
 try simp only [Xt, eY]
 all_goals rfl
theorem Qji {R1 l} [H1 : EncL Vj R1 l] : CP T (n + 2) 234 [.imm 3 R1] = (QaL l).map fun r => .i .i64 r := by
 obtain ⟨rfl⟩ := H1
 rw [Qg]
 simp -dsimp +contextual only [↓evA, eZ, Nat.reduceAdd, Nat.reduceMul, Nat.reduceBEq, Nat.reduceLeDiff, Nat.reduceLT, Tryz.func234, Tryz.f234, QAQ, QpO, QgK]
 try simp only [QaL, eY]
 all_goals rfl
theorem QjS (a) {R1 s} [H1 : EncL Vj R1 s] : CP T (n + 12) 152 [.i .i64 a, .imm 3 R1] = (Qbd a s).map fun r => .tup [.agg (Jb r.1), .b r.2] := by
 obtain ⟨rfl⟩ := H1
 rw [Qg]
 simp -dsimp +contextual only [↓evA, eZ, Nat.reduceAdd, Nat.reduceMul, Nat.reduceBEq, Nat.reduceLeDiff, Nat.reduceLT, Tryz.func152, Tryz.f152, QKB, Qsp, Vr, ZV, Qji]
 try simp only [Qbd, eY]
 all_goals rfl
theorem QjP {R1 c} [H1 : EncR VP R1 c] : CA T (n + 13) 102 [some (Ent.box R1)] [.ptr 0 0 0] = (Qbe c).map fun r => (.agg [.i .i64 r.2.No, .sl 1, .sl 2, .sl 3, .sl 4, .sl 5, .sl 6, .sl 7, .i .i64 r.2.Now], [some (Ent.box (VP r.1)), some (Ent.lst 8 (r.2.Finds.map Vk)), some (Ent.lst 3 (r.2.Secrets.map Xg)), some (Ent.lst 3 (r.2.Slots.map Vj)), some (Ent.lst 5 (r.2.Claims.map QC)), some (Ent.lst 4 (r.2.Trials.map XT)), some (Ent.lst 5 (r.2.Chain.map VE)), some (Ent.lst 4 (r.2.Book.map Vw))]) := by
 obtain ⟨rfl⟩ := H1
 rw [Qer]
 simp -dsimp +contextual (maxSteps := 100000000) only [↓evA, eZ, Nat.reduceAdd, Nat.reduceMul, Nat.reduceBEq, Nat.reduceLeDiff, Nat.reduceLT, Tryz.func102, Tryz.f102, QKa, Qs8, srt, VH, QjQ, QjS]
 try simp only [Qbe, eY]
 all_goals rfl
theorem Ql5 (i) {R1 c} [H1 : EncR VP R1 c] : CA T (n + 3) 222 [some (Ent.box R1)] [.ptr 0 0 0, .i .i64 i] = (QcB c i).map fun r => (.agg (Qdp r.2), [some (Ent.box (VP r.1))]) := by
 obtain ⟨rfl⟩ := H1
 rw [Qer]
 simp -dsimp +contextual (maxSteps := 100000000) only [↓evA, eZ, Nat.reduceAdd, Nat.reduceMul, Nat.reduceBEq, Nat.reduceLeDiff, Nat.reduceLT, Tryz.func222, Tryz.f222, QES, Qr6, srt, VH]
 try simp only [QcB, eY]
 all_goals rfl
theorem Ql4 (i) {R1 c} [H1 : EncR VP R1 c] : CA T (n + 4) 248 [some (Ent.box R1)] [.ptr 0 0 0, .i .i64 i] = (QcJ c i).map fun r => (.agg (Vk r.2), [some (Ent.box (VP r.1))]) := by
 obtain ⟨rfl⟩ := H1
 rw [Qer]
 simp -dsimp +contextual (maxSteps := 100000000) only [↓evA, eZ, Nat.reduceAdd, Nat.reduceMul, Nat.reduceBEq, Nat.reduceLeDiff, Nat.reduceLT, Tryz.func248, Tryz.f248, QKP, Qrx, srt, Ql5, VH]
 try simp only [QcJ, eY]
 all_goals rfl
theorem QcV {R1 c R2 l} [H1 : EncR VP R1 c] [H2 : EncL QU R2 l] : CA T (n + 3) 75 [some (Ent.box R1), some (Ent.lst 1 R2)] [.ptr 0 0 0, .sl 1] = (X0 c l).map fun r => (.i .i64 r.2, [some (Ent.box (VP r.1)), some (Ent.lst 1 (l.map QU))]) := by
 rcases H1, H2 with ⟨⟨rfl⟩, ⟨rfl⟩⟩
 rw [Qer]
 simp -dsimp +contextual (maxSteps := 100000000) only [↓evA, eZ, Nat.reduceAdd, Nat.reduceMul, Nat.reduceBEq, Nat.reduceLeDiff, Nat.reduceLT, Tryz.func75, Tryz.f75, QMb, QxK, srt, VH]
 try simp only [X0, eY]
 all_goals rfl
theorem Qf1 (i) {R1 c} [H1 : EncR VP R1 c] : CA T (n + 5) 171 [some (Ent.box R1)] [.ptr 0 0 0, .i .i64 i] = (Z4 c i).map fun r => (.agg [.i .i64 r.2.Kind, .i .i64 r.2.Find.Thing.Id, .i .i64 r.2.Find.Thing.Kind, .i .i64 r.2.Find.Thing.Colour, .i .i64 r.2.Find.Thing.Size, .i .i64 r.2.Find.Thing.Worth, .i .i64 r.2.Find.Place, .i .i64 r.2.Find.At, .i .i64 r.2.Find.Finder, .sl 1, .i .i64 r.2.Id, .i .i64 r.2.Who, .i .i64 r.2.N, .sl 2], [some (Ent.box (VP r.1)), some (Ent.lst 2 (r.2.Marks.map Xu)), some (Ent.lst 3 (r.2.Bids.map Qbc))]) := by
 obtain ⟨rfl⟩ := H1
 rw [Qer]
 simp -dsimp +contextual (maxSteps := 100000000) only [↓evA, eZ, Nat.reduceAdd, Nat.reduceMul, Nat.reduceBEq, Nat.reduceLeDiff, Nat.reduceLT, Tryz.func171, Tryz.f171, QLv, QrQ, srt, Ql4, VH, QcV]
 try simp only [Z4, eY]
 all_goals rfl
theorem QlI (s w c) : CP T (n + 5) 301 [.i .i64 s, .i .i64 w, .i .i64 c] = (QbY s w c).map fun r => .i .i64 r := by
 rw [Qg]
 simp -dsimp +contextual only [↓evA, eZ, Nat.reduceAdd, Nat.reduceMul, Nat.reduceBEq, Nat.reduceLeDiff, Nat.reduceLT, Tryz.func301, Tryz.f301, QHY, QrJ, Qft]
 try simp only [QbY, eY]
 all_goals rfl
theorem Qi8 (i) {R1 c R2 l} [H1 : EncR VP R1 c] [H2 : EncL Qbc R2 l] : LP T (n + 6) 249 3 (frm [(0, .ptr 0 0 0), (3, .sl 1), (4, .i .i64 i)]) [some (Ent.box R1), some (Ent.lst 3 R2)] =
  (run ZK (c, l, i)).map (fun (zr : l1Cur × (List Bid)) => (XE.exit 0, frm [(0, .ptr 0 0 0), (3, .sl 1)], [some (Ent.box (VP zr.1)), some (Ent.lst 3 (zr.2.map Qbc))])) := by
 rcases H1, H2 with ⟨⟨rfl⟩, ⟨rfl⟩⟩
 rw [QB]
 simp -dsimp only [↓evA, evB, Qm, Tryz.func249, Tryz.f249, Qz9, Qpt, TP, TZ, Nat.reduceAdd, Nat.reduceMul, Nat.reduceBEq, Nat.reduceLeDiff, Nat.reduceLT]
 apply Qf6 c l i
 intro c l i
 simp -dsimp +contextual only [↓evA, eZ, Nat.reduceAdd, Nat.reduceMul, Nat.reduceBEq, Nat.reduceLeDiff, Nat.reduceLT, srt, VH, QlI]
 try simp only [ZK, eY]
 all_goals rfl
theorem Qmb {R1 c} [H1 : EncR VP R1 c] : CA T (n + 7) 249 [some (Ent.box R1)] [.ptr 0 0 0] = (QcK c).map fun r => (.sl 1, [some (Ent.box (VP r.1)), some (Ent.lst 3 (r.2.map Qbc))]) := by
 obtain ⟨rfl⟩ := H1
 rw [Qer]
 simp -dsimp +contextual (maxSteps := 100000000) only [↓evA, eZ, Nat.reduceAdd, Nat.reduceMul, Nat.reduceBEq, Nat.reduceLeDiff, Nat.reduceLT, Tryz.func249, Tryz.f249, Qz9, Qpt, srt, VH, QcV, Qi8]
 try simp only [QcK, eY]
 all_goals rfl
end Go.Proofs.YtkbilciipmijjaaGreat
