import Derived.Test.YtcdffihcfeajfaaGreatEq3
namespace Go.Proofs.YtcdffihcfeajfaaGreat
open Go Go.Proofs Go.Proofs.YtcdffihcfeajfaaGreat.Am
set_option maxHeartbeats 4000000
set_option linter.unusedVariables false
set_option linter.unusedSimpArgs false
set_option linter.defProp false
set_option maxRecDepth 100000
variable (n : Nat)
theorem QiA (a2 a3) {R1 l R2 a} [H1 : EncL Qg R1 l] [H2 : EncL Qg R2 a] : LP T (n + 2) 159 4 (frm [(0, .imm 5 R1), (10, .imm 5 R2), (11, .i .i64 a2), (12, .i .i64 a3)]) [] =
  VR (run (Jj l a a2) a3) (fun (zr : Bool) => (XE.ret, frm [(2, .b zr)], [])) (fun (zr : Unit) => (XE.exit 0, frm [], [])) := by
 rcases H1, H2 with ⟨⟨rfl⟩, ⟨rfl⟩⟩
 rw [Qn]
 simp -dsimp only [↓evA, evB, Qf, Tryz.func159, Tryz.f159, QE9, QvX, TP, TZ, Nat.reduceAdd, Nat.reduceMul, Nat.reduceBEq, Nat.reduceLeDiff, Nat.reduceLT]
 apply Ql a3
 intro a3
 simp -dsimp +contextual only [↓evA, eZ, Nat.reduceAdd, Nat.reduceMul, Nat.reduceBEq, Nat.reduceLeDiff, Nat.reduceLT, QY, Qie]
 try simp only [Jj, eY]
 all_goals rfl
theorem Qd8 {R1 l} [H1 : EncL Qg R1 l] : CP T (n + 3) 159 [.imm 5 R1] = (V4 l).map fun r => .b r := by
 obtain ⟨rfl⟩ := H1
 rw [Qc]
 simp -dsimp +contextual only [↓evA, eZ, Nat.reduceAdd, Nat.reduceMul, Nat.reduceBEq, Nat.reduceLeDiff, Nat.reduceLT, Tryz.func159, Tryz.f159, QE9, QvX, QiA]
 try simp only [V4, eY]
 all_goals rfl
theorem Qg3 (a2 a3) {R1 l R2 a} [H1 : EncL QK R1 l] [H2 : EncL QK R2 a] : LP T (n + 2) 161 4 (frm [(0, .imm 4 R1), (8, .imm 4 R2), (9, .i .i64 a2), (10, .i .i64 a3)]) [] =
  VR (run (XJ l a a2) a3) (fun (zr : Bool) => (XE.ret, frm [(2, .b zr)], [])) (fun (zr : Unit) => (XE.exit 0, frm [], [])) := by
 rcases H1, H2 with ⟨⟨rfl⟩, ⟨rfl⟩⟩
 rw [Qn]
 simp -dsimp only [↓evA, evB, Qf, Tryz.func161, Tryz.f161, QPo, QxG, TP, TZ, Nat.reduceAdd, Nat.reduceMul, Nat.reduceBEq, Nat.reduceLeDiff, Nat.reduceLT]
 apply Ql a3
 intro a3
 simp -dsimp +contextual only [↓evA, eZ, Nat.reduceAdd, Nat.reduceMul, Nat.reduceBEq, Nat.reduceLeDiff, Nat.reduceLT, QY]
 try simp only [XJ, eY]
 all_goals rfl
theorem QfH {R1 l} [H1 : EncL QK R1 l] : CP T (n + 3) 161 [.imm 4 R1] = (JE l).map fun r => .b r := by
 obtain ⟨rfl⟩ := H1
 rw [Qc]
 simp -dsimp +contextual only [↓evA, eZ, Nat.reduceAdd, Nat.reduceMul, Nat.reduceBEq, Nat.reduceLeDiff, Nat.reduceLT, Tryz.func161, Tryz.f161, QPo, QxG, Qg3]
 try simp only [JE, eY]
 all_goals rfl
theorem Qj6 (a a3 a4) {R1 l R2 o R3 a2} [H1 : EncL Q1 R1 l] [H2 : EncL Vg R2 o] [H3 : EncL Q1 R3 a2] : LP T (n + 3) 236 5 (frm [(0, .imm 5 R1), (1, .i .i64 a), (5, .sl 0), (13, .imm 5 R3), (14, .i .i64 a3), (15, .i .i64 a4)]) [some (Ent.lst 1 R2)] =
  (run (Zv l a a2 a3) (o, a4)).map (fun (zr : (List Int)) => (XE.exit 0, frm [(5, .sl 0)], [some (Ent.lst 1 (zr.map Vg))])) := by
 rcases H1, H2, H3 with ⟨⟨rfl⟩, ⟨rfl⟩, ⟨rfl⟩⟩
 rw [Qn]
 simp -dsimp only [↓evA, evB, Qf, Tryz.func236, Tryz.f236, QKQ, Qz5, TP, TZ, Nat.reduceAdd, Nat.reduceMul, Nat.reduceBEq, Nat.reduceLeDiff, Nat.reduceLT]
 apply QD o a4
 intro o a4
 simp -dsimp +contextual only [↓evA, eZ, Nat.reduceAdd, Nat.reduceMul, Nat.reduceBEq, Nat.reduceLeDiff, Nat.reduceLT, srt, QgG]
 try simp only [Zv, eY]
 all_goals rfl
theorem Qo4 (a) {R1 l} [H1 : EncL Q1 R1 l] : CP T (n + 9) 236 [.imm 5 R1, .i .i64 a] = (Qdo l a).map fun r => .own 1 (r.map Vg) := by
 obtain ⟨rfl⟩ := H1
 rw [Qc]
 simp -dsimp +contextual only [↓evA, eZ, Nat.reduceAdd, Nat.reduceMul, Nat.reduceBEq, Nat.reduceLeDiff, Nat.reduceLT, Tryz.func236, Tryz.f236, QKQ, Qz5, srt, Qfc, Qj6]
 try simp only [Qdo, eY]
 all_goals first | rfl | (simp +contextual only [evN] <;> rfl)
theorem QgX (v a a2) {R1 s} [H1 : EncL Vg R1 s] : LP T (n + 1) 266 2 (frm [(0, .imm 1 R1), (1, .i .i64 v), (7, .i .i64 a), (8, .i .i64 a2)]) [] =
  VR (run (Xy s v a) a2) (fun (zr : Int) => (XE.ret, frm [(4, .i .i64 zr)], [])) (fun (zr : Unit) => (XE.exit 0, frm [], [])) := by
 obtain ⟨rfl⟩ := H1
 rw [Qn]
 simp -dsimp only [↓evA, evB, Qf, Tryz.func266, Tryz.f266, QNj, QxR, TP, TZ, Nat.reduceAdd, Nat.reduceMul, Nat.reduceBEq, Nat.reduceLeDiff, Nat.reduceLT]
 apply Ql a2
 intro a2
 simp -dsimp +contextual only [↓evA, eZ, Nat.reduceAdd, Nat.reduceMul, Nat.reduceBEq, Nat.reduceLeDiff, Nat.reduceLT]
 try simp only [Xy, eY]
 all_goals rfl
theorem QiW (v) {R1 s} [H1 : EncL Vg R1 s] : CP T (n + 2) 266 [.imm 1 R1, .i .i64 v] = (Qcj s v).map fun r => .i .i64 r := by
 obtain ⟨rfl⟩ := H1
 rw [Qc]
 simp -dsimp +contextual only [↓evA, eZ, Nat.reduceAdd, Nat.reduceMul, Nat.reduceBEq, Nat.reduceLeDiff, Nat.reduceLT, Tryz.func266, Tryz.f266, QNj, QxR, QgX]
 try simp only [Qcj, eY]
 all_goals rfl
theorem QgS (v) {R1 s} [H1 : EncL Vg R1 s] : CP T (n + 3) 237 [.imm 1 R1, .i .i64 v] = (JH s v).map fun r => .b r := by
 obtain ⟨rfl⟩ := H1
 rw [Qc]
 simp -dsimp +contextual only [↓evA, eZ, Nat.reduceAdd, Nat.reduceMul, Nat.reduceBEq, Nat.reduceLeDiff, Nat.reduceLT, Tryz.func237, Tryz.f237, QR8, QBz, QiW]
 try simp only [JH, eY]
 all_goals rfl
theorem QjM (a4 a5) {R1 a R2 a2 R3 a3} [H1 : EncR QC R1 a] [H2 : EncL Vg R2 a2] [H3 : EncL Qv R3 a3] : LP T (n + 5) 162 5 (frm [(1, .ptr 0 0 0), (3, .sl 1), (23, .imm 8 R3), (24, .i .i64 a4), (25, .i .i64 a5)]) [some (Ent.box R1), some (Ent.lst 1 R2)] =
  VR (run (Zr a a2 a3 a4) a5) (fun (zr : Bool) => (XE.ret, frm [(2, .b zr)], [])) (fun (zr : Unit) => (XE.exit 0, frm [(1, .ptr 0 0 0), (3, .sl 1)], [some (Ent.box (QC a)), some (Ent.lst 1 (a2.map Vg))])) := by
 rcases H1, H2, H3 with ⟨⟨rfl⟩, ⟨rfl⟩, ⟨rfl⟩⟩
 rw [Qn]
 simp -dsimp only [↓evA, evB, Qf, Tryz.func162, Tryz.f162, QC8, Qtx, TP, TZ, Nat.reduceAdd, Nat.reduceMul, Nat.reduceBEq, Nat.reduceLeDiff, Nat.reduceLT]
 apply Ql a5
 intro a5
 simp -dsimp +contextual (maxSteps := 100000000) only [↓evA, eZ, Nat.reduceAdd, Nat.reduceMul, Nat.reduceBEq, Nat.reduceLeDiff, Nat.reduceLT, Zz, QgS]
 try simp only [Zr, eY]
 all_goals rfl
theorem Qjk (a4 a5) {R1 a R2 a2 R3 a3} [H1 : EncR QC R1 a] [H2 : EncL Vg R2 a2] [H3 : EncL QL R3 a3] : LP T (n + 5) 162 11 (frm [(1, .ptr 0 0 0), (3, .sl 1), (57, .imm 3 R3), (58, .i .i64 a4), (59, .i .i64 a5)]) [some (Ent.box R1), some (Ent.lst 1 R2)] =
  VR (run (J9 a a2 a3 a4) a5) (fun (zr : Bool) => (XE.ret, frm [(2, .b zr)], [])) (fun (zr : Unit) => (XE.exit 2, frm [(1, .ptr 0 0 0), (3, .sl 1)], [some (Ent.box (QC a)), some (Ent.lst 1 (a2.map Vg))])) := by
 rcases H1, H2, H3 with ⟨⟨rfl⟩, ⟨rfl⟩, ⟨rfl⟩⟩
 rw [Qn]
 simp -dsimp only [↓evA, evB, Qf, Tryz.func162, Tryz.f162, QC8, Qtx, TP, TZ, Nat.reduceAdd, Nat.reduceMul, Nat.reduceBEq, Nat.reduceLeDiff, Nat.reduceLT]
 apply Ql a5
 intro a5
 simp -dsimp +contextual (maxSteps := 100000000) only [↓evA, eZ, Nat.reduceAdd, Nat.reduceMul, Nat.reduceBEq, Nat.reduceLeDiff, Nat.reduceLT, Z8]
 try simp only [J9, eY]
 all_goals rfl
theorem QiZ (a3 a4) {R1 a R2 a2} [H1 : EncR QC R1 a] [H2 : EncL Vg R2 a2] : LP T (n + 5) 162 17 (frm [(1, .ptr 0 0 0), (75, .sl 1), (76, .i .i64 a3), (77, .i .i64 a4)]) [some (Ent.box R1), some (Ent.lst 1 R2)] =
  VR (run (JW a a2 a3) a4) (fun (zr : Bool) => (XE.ret, frm [(2, .b zr)], [])) (fun (zr : Unit) => (XE.exit 4, frm [], [])) := by
 rcases H1, H2 with ⟨⟨rfl⟩, ⟨rfl⟩⟩
 rw [Qn]
 simp -dsimp only [↓evA, evB, Qf, Tryz.func162, Tryz.f162, QC8, Qtx, TP, TZ, Nat.reduceAdd, Nat.reduceMul, Nat.reduceBEq, Nat.reduceLeDiff, Nat.reduceLT]
 apply Ql a4
 intro a4
 simp -dsimp +contextual (maxSteps := 100000000) only [↓evA, eZ, Nat.reduceAdd, Nat.reduceMul, Nat.reduceBEq, Nat.reduceLeDiff, Nat.reduceLT, Z8]
 try simp only [JW, eY]
 all_goals rfl
theorem Qn3 {R1 a} [H1 : EncR QC R1 a] : CP T (n + 10) 162 [.agg R1] = (QaI a).map fun r => .b r := by
 obtain ⟨rfl⟩ := H1
 rw [Qc]
 simp -dsimp +contextual (maxSteps := 100000000) only [↓evA, eZ, Nat.reduceAdd, Nat.reduceMul, Nat.reduceBEq, Nat.reduceLeDiff, Nat.reduceLT, Tryz.func162, Tryz.f162, QC8, Qtx, Qo4, QjM, Qjk, QiZ]
 try simp only [QaI, eY]
 all_goals rfl
theorem Qhf {R1 a} [H1 : EncR QA R1 a] : CP T (n + 2) 196 [.agg R1] = (Qb7 a).map fun r => .b r := by
 obtain ⟨rfl⟩ := H1
 rw [Qc]
 simp -dsimp +contextual only [↓evA, eZ, Nat.reduceAdd, Nat.reduceMul, Nat.reduceBEq, Nat.reduceLeDiff, Nat.reduceLT, Tryz.func196, Tryz.f196, QTY, QA0, QY]
 try simp only [Qb7, eY]
 all_goals rfl
theorem QhC (a) {R1 l} [H1 : EncL QH R1 l] : CP T (n + 5) 107 [.imm 3 R1, .i .i64 a] = (Qce l a).map fun r => .own 2 (r.map Vf) := by
 obtain ⟨rfl⟩ := H1
 rw [Qc]
 simp -dsimp +contextual only [↓evA, eZ, Nat.reduceAdd, Nat.reduceMul, Nat.reduceBEq, Nat.reduceLeDiff, Nat.reduceLT, Tryz.func107, Tryz.f107, QR0, QBw, QgC, Qcx]
 try simp only [Qce, eY]
 all_goals first | rfl | (simp +contextual only [evN] <;> rfl)
theorem Qo5 {R1 l} [H1 : EncL Vf R1 l] : CP T (n + 1) 198 [.imm 2 R1] = (Qco l).map fun r => .i .i64 r := by
 obtain ⟨rfl⟩ := H1
 rw [Qc]
 simp -dsimp +contextual only [↓evA, eZ, Nat.reduceAdd, Nat.reduceMul, Nat.reduceBEq, Nat.reduceLeDiff, Nat.reduceLT, Tryz.func198, Tryz.f198, QUd, QBj]
 try simp only [Qco, eY]
 all_goals rfl
theorem QdD {R1 l R2 a} [H1 : EncL Vf R1 l] [H2 : EncR QA R2 a] : CP T (n + 4) 109 [.imm 2 R1, .agg R2] = (Jz l a).map fun r => .i .i64 r := by
 rcases H1, H2 with ⟨⟨rfl⟩, ⟨rfl⟩⟩
 rw [Qc]
 simp -dsimp +contextual only [↓evA, eZ, Nat.reduceAdd, Nat.reduceMul, Nat.reduceBEq, Nat.reduceLeDiff, Nat.reduceLT, Tryz.func109, Tryz.f109, QU3, QBU, Qhf, QeI, Qo5]
 try simp only [Jz, eY]
 all_goals rfl
theorem QpD (s) : CP T (n + 1) 238 [.i .i64 s] = (Qdk s).map fun r => .i .i64 r := by
 rw [Qc]
 simp -dsimp +contextual only [↓evA, eZ, Nat.reduceAdd, Nat.reduceMul, Nat.reduceBEq, Nat.reduceLeDiff, Nat.reduceLT, Tryz.func238, Tryz.f238, QQp, QD5]
 try simp only [Qdk, eY]
 all_goals rfl
theorem Qii (a3 a4) {R1 a R2 a2} [H1 : EncR QC R1 a] [H2 : EncL Qg R2 a2] : LP T (n + 6) 163 4 (frm [(1, .ptr 0 0 0), (14, .imm 5 R2), (15, .i .i64 a3), (16, .i .i64 a4)]) [some (Ent.box R1)] =
  VR (run (Q7 a a2 a3) a4) (fun (zr : Bool) => (XE.ret, frm [(2, .b zr)], [])) (fun (zr : Unit) => (XE.exit 0, frm [], [])) := by
 rcases H1, H2 with ⟨⟨rfl⟩, ⟨rfl⟩⟩
 rw [Qn]
 simp -dsimp only [↓evA, evB, Qf, Tryz.func163, Tryz.f163, QLW, Qy3, TP, TZ, Nat.reduceAdd, Nat.reduceMul, Nat.reduceBEq, Nat.reduceLeDiff, Nat.reduceLT]
 apply Ql a4
 intro a4
 simp -dsimp +contextual (maxSteps := 100000000) only [↓evA, eZ, Nat.reduceAdd, Nat.reduceMul, Nat.reduceBEq, Nat.reduceLeDiff, Nat.reduceLT, Z8, Qhf, QhC, QdD, QpD]
 try simp only [Q7, eY]
 all_goals rfl
theorem Qlu {R1 a} [H1 : EncR QC R1 a] : CP T (n + 7) 163 [.agg R1] = (VO a).map fun r => .b r := by
 obtain ⟨rfl⟩ := H1
 rw [Qc]
 simp -dsimp +contextual (maxSteps := 100000000) only [↓evA, eZ, Nat.reduceAdd, Nat.reduceMul, Nat.reduceBEq, Nat.reduceLeDiff, Nat.reduceLT, Tryz.func163, Tryz.f163, QLW, Qy3, Qii]
 try simp only [VO, eY]
 all_goals rfl
theorem QlP (a2 a4 a5) {R1 a R2 a3} [H1 : EncR QC R1 a] [H2 : EncL Qv R2 a3] : LP T (n + 1) 164 3 (frm [(1, .ptr 0 0 0), (3, .i .i64 a2), (13, .imm 8 R2), (14, .i .i64 a4), (15, .i .i64 a5)]) [some (Ent.box R1)] =
  (run (Qas a a3 a4) (a2, a5)).map (fun (zr : Int) => (XE.exit 0, frm [(1, .ptr 0 0 0), (3, .i .i64 zr)], [some (Ent.box (QC a))])) := by
 rcases H1, H2 with ⟨⟨rfl⟩, ⟨rfl⟩⟩
 rw [Qn]
 simp -dsimp only [↓evA, evB, Qf, Tryz.func164, Tryz.f164, Qzb, Qsj, TP, TZ, Nat.reduceAdd, Nat.reduceMul, Nat.reduceBEq, Nat.reduceLeDiff, Nat.reduceLT]
 apply QD a2 a5
 intro a2 a5
 simp -dsimp +contextual (maxSteps := 100000000) only [↓evA, eZ, Nat.reduceAdd, Nat.reduceMul, Nat.reduceBEq, Nat.reduceLeDiff, Nat.reduceLT]
 try simp only [Qas, eY]
 all_goals rfl
theorem Ql0 (a2 a4 a5) {R1 a R2 a3} [H1 : EncR QC R1 a] [H2 : EncL Qg R2 a3] : LP T (n + 1) 164 8 (frm [(1, .ptr 0 0 0), (3, .i .i64 a2), (25, .imm 5 R2), (26, .i .i64 a4), (27, .i .i64 a5)]) [some (Ent.box R1)] =
  (run (Qap a a3 a4) (a2, a5)).map (fun (zr : Int) => (XE.exit 2, frm [(1, .ptr 0 0 0), (3, .i .i64 zr)], [some (Ent.box (QC a))])) := by
 rcases H1, H2 with ⟨⟨rfl⟩, ⟨rfl⟩⟩
 rw [Qn]
 simp -dsimp only [↓evA, evB, Qf, Tryz.func164, Tryz.f164, Qzb, Qsj, TP, TZ, Nat.reduceAdd, Nat.reduceMul, Nat.reduceBEq, Nat.reduceLeDiff, Nat.reduceLT]
 apply QD a2 a5
 intro a2 a5
 simp -dsimp +contextual (maxSteps := 100000000) only [↓evA, eZ, Nat.reduceAdd, Nat.reduceMul, Nat.reduceBEq, Nat.reduceLeDiff, Nat.reduceLT]
 try simp only [Qap, eY]
 all_goals rfl
theorem Qj1 (a2 a4 a5) {R1 a R2 a3} [H1 : EncR QC R1 a] [H2 : EncL Q1 R2 a3] : LP T (n + 1) 164 13 (frm [(1, .ptr 0 0 0), (3, .i .i64 a2), (37, .imm 5 R2), (38, .i .i64 a4), (39, .i .i64 a5)]) [some (Ent.box R1)] =
  (run (Zw a a3 a4) (a2, a5)).map (fun (zr : Int) => (XE.exit 4, frm [(1, .ptr 0 0 0), (3, .i .i64 zr)], [some (Ent.box (QC a))])) := by
 rcases H1, H2 with ⟨⟨rfl⟩, ⟨rfl⟩⟩
 rw [Qn]
 simp -dsimp only [↓evA, evB, Qf, Tryz.func164, Tryz.f164, Qzb, Qsj, TP, TZ, Nat.reduceAdd, Nat.reduceMul, Nat.reduceBEq, Nat.reduceLeDiff, Nat.reduceLT]
 apply QD a2 a5
 intro a2 a5
 simp -dsimp +contextual (maxSteps := 100000000) only [↓evA, eZ, Nat.reduceAdd, Nat.reduceMul, Nat.reduceBEq, Nat.reduceLeDiff, Nat.reduceLT]
 try simp only [Zw, eY]
 all_goals rfl
theorem QkH (a a3 a4) {R1 a2} [H1 : EncL QK R1 a2] : LP T (n + 1) 164 18 (frm [(3, .i .i64 a), (49, .imm 4 R1), (50, .i .i64 a3), (51, .i .i64 a4)]) [] =
  (run (ZD a2 a3) (a, a4)).map (fun (zr : Int) => (XE.exit 6, frm [(3, .i .i64 zr)], [])) := by
 obtain ⟨rfl⟩ := H1
 rw [Qn]
 simp -dsimp only [↓evA, evB, Qf, Tryz.func164, Tryz.f164, Qzb, Qsj, TP, TZ, Nat.reduceAdd, Nat.reduceMul, Nat.reduceBEq, Nat.reduceLeDiff, Nat.reduceLT]
 apply QD a a4
 intro a a4
 simp -dsimp +contextual only [↓evA, eZ, Nat.reduceAdd, Nat.reduceMul, Nat.reduceBEq, Nat.reduceLeDiff, Nat.reduceLT]
 try simp only [ZD, eY]
 all_goals rfl
theorem Qpv {R1 a} [H1 : EncR QC R1 a] : CP T (n + 2) 164 [.agg R1] = (QeB a).map fun r => .i .i64 r := by
 obtain ⟨rfl⟩ := H1
 rw [Qc]
 simp -dsimp +contextual (maxSteps := 100000000) only [↓evA, eZ, Nat.reduceAdd, Nat.reduceMul, Nat.reduceBEq, Nat.reduceLeDiff, Nat.reduceLT, Tryz.func164, Tryz.f164, Qzb, Qsj, QlP, Ql0, Qj1, QkH]
 try simp only [QeB, eY]
 all_goals rfl
theorem Z9 {R1 a} [H1 : EncR QC R1 a] : CP T (n + 11) 64 [.agg R1] = (Vq a).map fun r => .b r := by
 obtain ⟨rfl⟩ := H1
 rw [Qc]
 simp -dsimp +contextual (maxSteps := 100000000) only [↓evA, eZ, Nat.reduceAdd, Nat.reduceMul, Nat.reduceBEq, Nat.reduceLeDiff, Nat.reduceLT, Tryz.func64, Tryz.f64, a64, n64, QY, QgH, Qfy, QeH, Qd8, Qfc, QfH, Qn3, Qlu, Qpv]
 try simp only [Vq, eY]
 all_goals rfl
theorem Qac (oxNo oxNow) {R1 a R2 oxFinds R3 oxSecrets R4 oxSlots R5 oxClaims R6 oxTrials R7 oxChain R8 oxBook R9 d} [H1 : EncR QC R1 a] [H2 : EncL Qv R2 oxFinds] [H3 : EncL Qw R3 oxSecrets] [H4 : EncL QL R4 oxSlots] [H5 : EncL Qg R5 oxClaims] [H6 : EncL QA R6 oxTrials] [H7 : EncL Q1 R7 oxChain] [H8 : EncL QK R8 oxBook] [H9 : EncL c_b R9 d] : CM T (n + 12) 100 [some (Ent.lst 8 R2), some (Ent.lst 3 R3), some (Ent.lst 3 R4), some (Ent.lst 5 R5), some (Ent.lst 4 R6), some (Ent.lst 5 R7), some (Ent.lst 4 R8), some (Ent.lst 1 R9)] [.agg R1, .agg [.i .i64 oxNo, .sl 0, .sl 1, .sl 2, .sl 3, .sl 4, .sl 5, .sl 6, .i .i64 oxNow], .sl 7] = (Vw a (⟨oxNo, oxFinds, oxSecrets, oxSlots, oxClaims, oxTrials, oxChain, oxBook, oxNow⟩ : House) d).map fun r => .tup [.agg (Vz r.1), .b r.2] := by
 rcases H1, H2, H3, H4, H5, H6, H7, H8, H9 with ⟨⟨rfl⟩, ⟨rfl⟩, ⟨rfl⟩, ⟨rfl⟩, ⟨rfl⟩, ⟨rfl⟩, ⟨rfl⟩, ⟨rfl⟩, ⟨rfl⟩⟩
 rw [Qqc]
 simp -dsimp +contextual (maxSteps := 100000000) only [↓evA, eZ, Nat.reduceAdd, Nat.reduceMul, Nat.reduceBEq, Nat.reduceLeDiff, Nat.reduceLT, Tryz.func100, Tryz.f100, QEO, Qv7, QaE, Z9, Q5]
 try simp only [Vw, eY]
 all_goals rfl
theorem Qms (a4) {R1 a R2 a2 R3 a3} [H1 : EncR QC R1 a] [H2 : EncR Qv R2 a2] [H3 : EncL Vf R3 a3] : CP T (n + 13) 38 [.agg R1, .agg R2, .imm 2 R3, .i .i64 a4] = (QcK a a2 a3 a4).map fun r => .tup [.agg (Vz r.1), .b r.2] := by
 rcases H1, H2, H3 with ⟨⟨rfl⟩, ⟨rfl⟩, ⟨rfl⟩⟩
 rw [Qc]
 simp -dsimp +contextual (maxSteps := 100000000) only [↓evA, eZ, Nat.reduceAdd, Nat.reduceMul, Nat.reduceBEq, Nat.reduceLeDiff, Nat.reduceLT, Tryz.func38, Tryz.f38, a38, n38, srt, Q5, Qpf, QlW, QnK, QgZ, Qac]
 try simp only [QcK, eY]
 all_goals rfl
theorem Qjr (c) {R1 a} [H1 : EncR Qg R1 a] : CP T (n + 1) 191 [.agg R1, .iptr 1 [[.i .i64 c]] 0 0] = (Qb3 a c).map fun r => .b r := by
 obtain ⟨rfl⟩ := H1
 rw [Qc]
 simp -dsimp +contextual only [↓evA, eZ, Nat.reduceAdd, Nat.reduceMul, Nat.reduceBEq, Nat.reduceLeDiff, Nat.reduceLT, Tryz.func191, Tryz.f191, QRv, QCd]
 try simp only [Qb3, eY]
 all_goals rfl
theorem Z4 (f a a2) {R1 s} [H1 : EncL Qg R1 s] : LP T (n + 2) 190 2 (frm [(0, .imm 5 R1), (1, .clo 191 [.iptr 1 [[.i .i64 f]] 0 0]), (7, .i .i64 a), (8, .i .i64 a2)]) [] =
  VR (run (Qx s f a) a2) (fun (zr : Int) => (XE.ret, frm [(4, .i .i64 zr)], [])) (fun (zr : Unit) => (XE.exit 0, frm [], [])) := by
 obtain ⟨rfl⟩ := H1
 rw [Qn]
 simp -dsimp only [↓evA, evB, Qf, Tryz.func190, Tryz.f190, QvG, QqH, TP, TZ, Nat.reduceAdd, Nat.reduceMul, Nat.reduceBEq, Nat.reduceLeDiff, Nat.reduceLT]
 apply Ql a2
 intro a2
 simp -dsimp +contextual only [↓evA, eZ, Nat.reduceAdd, Nat.reduceMul, Nat.reduceBEq, Nat.reduceLeDiff, Nat.reduceLT, Qjr]
 try simp only [Qx, eY]
 all_goals rfl
theorem QaK (c) {R1 s} [H1 : EncL Qg R1 s] : CP T (n + 3) 190 [.imm 5 R1, .clo 191 [.iptr 1 [[.i .i64 c]] 0 0]] = (Vl s c).map fun r => .i .i64 r := by
 obtain ⟨rfl⟩ := H1
 rw [Qc]
 simp -dsimp +contextual only [↓evA, eZ, Nat.reduceAdd, Nat.reduceMul, Nat.reduceBEq, Nat.reduceLeDiff, Nat.reduceLT, Tryz.func190, Tryz.f190, QvG, QqH, Z4]
 try simp only [Vl, eY]
 all_goals rfl
theorem Qax (i) {R1 l} [H1 : EncL Qg R1 l] : CP T (n + 4) 106 [.imm 5 R1, .i .i64 i] = (V2 l i).map fun r => .i .i64 r := by
 obtain ⟨rfl⟩ := H1
 rw [Qc]
 simp -dsimp +contextual only [↓evA, eZ, Nat.reduceAdd, Nat.reduceMul, Nat.reduceBEq, Nat.reduceLeDiff, Nat.reduceLT, Tryz.func106, Tryz.f106, QTt, QDN, QaK]
 try simp only [V2, eY]
 all_goals rfl
theorem QkS {R1 a R2 c} [H1 : EncR Qg R1 a] [H2 : EncR Qg R2 c] : CP T (n + 1) 200 [.agg R1, .iptr 5 [R2] 0 0] = (Qc4 a c).map fun r => .b r := by
 rcases H1, H2 with ⟨⟨rfl⟩, ⟨rfl⟩⟩
 rw [Qc]
 simp -dsimp +contextual only [↓evA, eZ, Nat.reduceAdd, Nat.reduceMul, Nat.reduceBEq, Nat.reduceLeDiff, Nat.reduceLT, Tryz.func200, Tryz.f200, QUD, QDT]
 try simp only [Qc4, eY]
 all_goals rfl
theorem Qar (a a2) {R1 s R2 f} [H1 : EncL Qg R1 s] [H2 : EncR Qg R2 f] : LP T (n + 2) 190 2 (frm [(0, .imm 5 R1), (1, .clo 200 [.iptr 5 [R2] 0 0]), (7, .i .i64 a), (8, .i .i64 a2)]) [] =
  VR (run (Qz s f a) a2) (fun (zr : Int) => (XE.ret, frm [(4, .i .i64 zr)], [])) (fun (zr : Unit) => (XE.exit 0, frm [], [])) := by
 rcases H1, H2 with ⟨⟨rfl⟩, ⟨rfl⟩⟩
 rw [Qn]
 simp -dsimp only [↓evA, evB, Qf, Tryz.func190, Tryz.f190, QvG, QqH, TP, TZ, Nat.reduceAdd, Nat.reduceMul, Nat.reduceBEq, Nat.reduceLeDiff, Nat.reduceLT]
 apply Ql a2
 intro a2
 simp -dsimp +contextual only [↓evA, eZ, Nat.reduceAdd, Nat.reduceMul, Nat.reduceBEq, Nat.reduceLeDiff, Nat.reduceLT, QkS]
 try simp only [Qz, eY]
 all_goals rfl
theorem Qbi {R1 s R2 c} [H1 : EncL Qg R1 s] [H2 : EncR Qg R2 c] : CP T (n + 3) 190 [.imm 5 R1, .clo 200 [.iptr 5 [R2] 0 0]] = (Vm s c).map fun r => .i .i64 r := by
 rcases H1, H2 with ⟨⟨rfl⟩, ⟨rfl⟩⟩
 rw [Qc]
 simp -dsimp +contextual only [↓evA, eZ, Nat.reduceAdd, Nat.reduceMul, Nat.reduceBEq, Nat.reduceLeDiff, Nat.reduceLT, Tryz.func190, Tryz.f190, QvG, QqH, Qar]
 try simp only [Vm, eY]
 all_goals rfl
theorem Qab {R1 s R2 c} [H1 : EncL Qg R1 s] [H2 : EncR Qg R2 c] : CP T (n + 4) 199 [.imm 5 R1, .clo 200 [.iptr 5 [R2] 0 0]] = (QS s c).map fun r => .b r := by
 rcases H1, H2 with ⟨⟨rfl⟩, ⟨rfl⟩⟩
 rw [Qc]
 simp -dsimp +contextual only [↓evA, eZ, Nat.reduceAdd, Nat.reduceMul, Nat.reduceBEq, Nat.reduceLeDiff, Nat.reduceLT, Tryz.func199, Tryz.f199, QOt, Qw3, Qbi]
 try simp only [QS, eY]
 all_goals rfl
theorem QiV (a2) {R1 l R2 a R3 o} [H1 : EncL Qg R1 l] [H2 : EncR Qg R2 a] [H3 : EncL Qg R3 o] : LP T (n + 1) 113 5 (frm [(0, .imm 5 R1), (3, .ptr 0 0 0), (6, .sl 1), (7, .i .i64 a2)]) [some (Ent.box R2), some (Ent.lst 5 R3)] =
  (run (Zf l a o) a2).map (fun (zr : Int) => (XE.exit 0, frm [(0, .imm 5 (l.map Qg)), (3, .ptr 0 0 0), (6, .sl 1), (7, .i .i64 zr)], [some (Ent.box (Qg a)), some (Ent.lst 5 (o.map Qg))])) := by
 rcases H1, H2, H3 with ⟨⟨rfl⟩, ⟨rfl⟩, ⟨rfl⟩⟩
 rw [Qn]
 simp -dsimp only [↓evA, evB, Qf, Tryz.func113, Tryz.f113, QK1, QzA, TP, TZ, Nat.reduceAdd, Nat.reduceMul, Nat.reduceBEq, Nat.reduceLeDiff, Nat.reduceLT]
 apply Ql a2
 intro a2
 simp -dsimp +contextual only [↓evA, eZ, Nat.reduceAdd, Nat.reduceMul, Nat.reduceBEq, Nat.reduceLeDiff, Nat.reduceLT, srt]
 try simp only [Zf, eY]
 all_goals rfl
theorem Qm2 {R1 l R2 a} [H1 : EncL Qg R1 l] [H2 : EncR Qg R2 a] : CP T (n + 5) 113 [.imm 5 R1, .agg R2] = (QcI l a).map fun r => .tup [.own 5 (r.1.map Qg), .b r.2] := by
 rcases H1, H2 with ⟨⟨rfl⟩, ⟨rfl⟩⟩
 rw [Qc]
 simp -dsimp +contextual only [↓evA, eZ, Nat.reduceAdd, Nat.reduceMul, Nat.reduceBEq, Nat.reduceLeDiff, Nat.reduceLT, Tryz.func113, Tryz.f113, QK1, QzA, srt, QbJ, Qax, Qab, QCa, Qd8, QiV]
 try simp only [QcI, eY]
 all_goals first | rfl | (simp +contextual only [evN] <;> rfl)
theorem Qkp (oxNo oxNow) {R1 a R2 oxFinds R3 oxSecrets R4 oxSlots R5 oxClaims R6 oxTrials R7 oxChain R8 oxBook} [H1 : EncR QC R1 a] [H2 : EncL Qv R2 oxFinds] [H3 : EncL Qw R3 oxSecrets] [H4 : EncL QL R4 oxSlots] [H5 : EncL Qg R5 oxClaims] [H6 : EncL QA R6 oxTrials] [H7 : EncL Q1 R7 oxChain] [H8 : EncL QK R8 oxBook] : CM T (n + 12) 100 [some (Ent.lst 8 R2), some (Ent.lst 3 R3), some (Ent.lst 3 R4), some (Ent.lst 5 R5), some (Ent.lst 4 R6), some (Ent.lst 5 R7), some (Ent.lst 4 R8)] [.agg R1, .agg [.i .i64 oxNo, .sl 0, .sl 1, .sl 2, .sl 3, .sl 4, .sl 5, .sl 6, .i .i64 oxNow], .nil] = (Qbf a (⟨oxNo, oxFinds, oxSecrets, oxSlots, oxClaims, oxTrials, oxChain, oxBook, oxNow⟩ : House)).map fun r => .tup [.agg (Vz r.1), .b r.2] := by
 rcases H1, H2, H3, H4, H5, H6, H7, H8 with ⟨⟨rfl⟩, ⟨rfl⟩, ⟨rfl⟩, ⟨rfl⟩, ⟨rfl⟩, ⟨rfl⟩, ⟨rfl⟩, ⟨rfl⟩⟩
 rw [Qqc]
 simp -dsimp +contextual (maxSteps := 100000000) only [↓evA, eZ, Nat.reduceAdd, Nat.reduceMul, Nat.reduceBEq, Nat.reduceLeDiff, Nat.reduceLT, Tryz.func100, Tryz.f100, QEO, Qv7, QaE, Z9, Q5]
 try simp only [Qbf, eY]
 all_goals rfl
theorem QlQ (i w a2) {R1 a} [H1 : EncR QC R1 a] : CP T (n + 13) 29 [.agg R1, .i .i64 i, .i .i64 w, .i .i64 a2] = (QbB a i w a2).map fun r => .tup [.agg (Vz r.1), .b r.2] := by
 obtain ⟨rfl⟩ := H1
 rw [Qc]
 simp -dsimp +contextual (maxSteps := 100000000) only [↓evA, eZ, Nat.reduceAdd, Nat.reduceMul, Nat.reduceBEq, Nat.reduceLeDiff, Nat.reduceLT, Tryz.func29, Tryz.f29, a29, n29, srt, Q5, Qm2, Z9, Zz, Qax, QAE, Qkp]
 try simp only [QbB, eY]
 try simp only [List.contains_nil, Bool.not_false, Bool.and_true, VF, List.length_append, List.length_cons, List.length_nil, Nat.zero_add, VC, VL]
 all_goals rfl
theorem Qjs (c a) {R1 l} [H1 : EncL Vf R1 l] : CP T (n + 6) 243 [.imm 2 R1, .i .i64 c, .i .i64 a] = (Qat l c a).map fun r => .i .i64 r := by
 obtain ⟨rfl⟩ := H1
 rw [Qc]
 simp -dsimp +contextual only [↓evA, eZ, Nat.reduceAdd, Nat.reduceMul, Nat.reduceBEq, Nat.reduceLeDiff, Nat.reduceLT, Tryz.func243, Tryz.f243, QQl, QBf, QeI, QY, Qmn]
 try simp only [Qat, eY]
 all_goals rfl
theorem Qiv {R1 l R2 a} [H1 : EncL Vf R1 l] [H2 : EncR QA R2 a] : CP T (n + 7) 194 [.imm 2 R1, .agg R2] = (ZS l a).map fun r => .i .i64 r := by
 rcases H1, H2 with ⟨⟨rfl⟩, ⟨rfl⟩⟩
 rw [Qc]
 simp -dsimp +contextual only [↓evA, eZ, Nat.reduceAdd, Nat.reduceMul, Nat.reduceBEq, Nat.reduceLeDiff, Nat.reduceLT, Tryz.func194, Tryz.f194, QUu, QAW, QdD, Qjs]
 try simp only [ZS, eY]
 all_goals rfl
theorem Qjm (q a2 a3) {R1 a} [H1 : EncL Vf R1 a] : LP T (n + 1) 195 2 (frm [(1, .i .i64 q), (7, .imm 2 R1), (8, .i .i64 a2), (9, .i .i64 a3)]) [] =
  VR (run (JY q a a2) a3) (fun (zr : Int) => (XE.ret, frm [(4, .i .i64 zr)], [])) (fun (zr : Unit) => (XE.exit 0, frm [], [])) := by
 obtain ⟨rfl⟩ := H1
 rw [Qn]
 simp -dsimp only [↓evA, evB, Qf, Tryz.func195, Tryz.f195, QOl, Qy2, TP, TZ, Nat.reduceAdd, Nat.reduceMul, Nat.reduceBEq, Nat.reduceLeDiff, Nat.reduceLT]
 apply Ql a3
 intro a3
 simp -dsimp +contextual only [↓evA, eZ, Nat.reduceAdd, Nat.reduceMul, Nat.reduceBEq, Nat.reduceLeDiff, Nat.reduceLT]
 try simp only [JY, eY]
 all_goals rfl
theorem QmB (q) {R1 l} [H1 : EncL Vf R1 l] : CP T (n + 2) 195 [.imm 2 R1, .i .i64 q] = (QcV l q).map fun r => .i .i64 r := by
 obtain ⟨rfl⟩ := H1
 rw [Qc]
 simp -dsimp +contextual only [↓evA, eZ, Nat.reduceAdd, Nat.reduceMul, Nat.reduceBEq, Nat.reduceLeDiff, Nat.reduceLT, Tryz.func195, Tryz.f195, QOl, Qy2, Qjm]
 try simp only [QcV, eY]
 all_goals rfl
theorem Qkq (a2) {R1 l R2 a} [H1 : EncL Vf R1 l] [H2 : EncR QA R2 a] : CP T (n + 8) 108 [.imm 2 R1, .agg R2, .i .i64 a2] = (Qa4 l a a2).map fun r => .tup [.agg (QA r.1), .b r.2] := by
 rcases H1, H2 with ⟨⟨rfl⟩, ⟨rfl⟩⟩
 rw [Qc]
 simp -dsimp +contextual only [↓evA, eZ, Nat.reduceAdd, Nat.reduceMul, Nat.reduceBEq, Nat.reduceLeDiff, Nat.reduceLT, Tryz.func108, Tryz.f108, QP7, QB9, Qiv, QmB]
 try simp only [Qa4, eY]
 all_goals rfl
theorem QgJ (i s) {R1 l} [H1 : EncL Qg R1 l] : CP T (n + 5) 110 [.imm 5 R1, .i .i64 i, .i .i64 s] = (X0 l i s).map fun r => .tup [.own 5 (r.1.map Qg), .b r.2] := by
 obtain ⟨rfl⟩ := H1
 rw [Qc]
 simp -dsimp +contextual only [↓evA, eZ, Nat.reduceAdd, Nat.reduceMul, Nat.reduceBEq, Nat.reduceLeDiff, Nat.reduceLT, Tryz.func110, Tryz.f110, QTj, QCq, QbJ, Qax, Qd8]
 try simp only [X0, eY]
 all_goals first | rfl | (simp +contextual only [evN] <;> rfl)
theorem QkW (a2 a3) {R1 a} [H1 : EncR QC R1 a] : CP T (n + 13) 27 [.agg R1, .i .i64 a2, .i .i64 a3] = (Qa7 a a2 a3).map fun r => .tup [.agg (Vz r.1), .b r.2] := by
 obtain ⟨rfl⟩ := H1
 rw [Qc]
 simp -dsimp +contextual (maxSteps := 100000000) only [↓evA, eZ, Nat.reduceAdd, Nat.reduceMul, Nat.reduceBEq, Nat.reduceLeDiff, Nat.reduceLT, Tryz.func27, Tryz.f27, a27, n27, srt, Q5, Qax, Z9, QhC, Qkq, QdD, QgJ, Qac]
 try simp only [Qa7, eY]
 all_goals rfl
theorem QfN (a2) {R1 a} [H1 : EncR QC R1 a] : CP T (n + 12) 122 [.agg R1, .i .i64 a2] = (QaC a a2).map fun r => .tup [.agg (Qv r.1), .b r.2] := by
 obtain ⟨rfl⟩ := H1
 rw [Qc]
 simp -dsimp +contextual (maxSteps := 100000000) only [↓evA, eZ, Nat.reduceAdd, Nat.reduceMul, Nat.reduceBEq, Nat.reduceLeDiff, Nat.reduceLT, Tryz.func122, Tryz.f122, QUz, QAQ, Z8, Z9, Zz]
 try simp only [QaC, eY]
 all_goals rfl
theorem QgY (a f a3 a4) {R1 b R2 a2} [H1 : EncR Qg R1 b] [H2 : EncL Qg R2 a2] : LP T (n + 1) 123 4 (frm [(1, .i .i64 a), (5, .ptr 0 0 0), (6, .b f), (10, .imm 5 R2), (11, .i .i64 a3), (12, .i .i64 a4)]) [some (Ent.box R1)] =
  (run (Vb a a2 a3) (b, f, a4)).map (fun (zr : Claim) => (XE.exit 0, frm [(5, .ptr 0 0 0)], [some (Ent.box (Qg zr))])) := by
 rcases H1, H2 with ⟨⟨rfl⟩, ⟨rfl⟩⟩
 rw [Qn]
 simp -dsimp only [↓evA, evB, Qf, Tryz.func123, Tryz.f123, QLl, Qzs, TP, TZ, Nat.reduceAdd, Nat.reduceMul, Nat.reduceBEq, Nat.reduceLeDiff, Nat.reduceLT]
 apply JG b f a4
 intro b f a4
 simp -dsimp +contextual only [↓evA, eZ, Nat.reduceAdd, Nat.reduceMul, Nat.reduceBEq, Nat.reduceLeDiff, Nat.reduceLT]
 try simp only [Vb, eY]
 all_goals rfl
theorem QeY (a) {R1 l} [H1 : EncL Qg R1 l] : CP T (n + 2) 123 [.imm 5 R1, .i .i64 a] = (J8 l a).map fun r => .i .i64 r := by
 obtain ⟨rfl⟩ := H1
 rw [Qc]
 simp -dsimp +contextual only [↓evA, eZ, Nat.reduceAdd, Nat.reduceMul, Nat.reduceBEq, Nat.reduceLeDiff, Nat.reduceLT, Tryz.func123, Tryz.f123, QLl, Qzs, QgY]
 try simp only [J8, eY]
 all_goals rfl
theorem Qot (a) {R1 l} [H1 : EncL QL R1 l] : CP T (n + 8) 211 [.imm 3 R1, .i .i64 a] = (Qdr l a).map fun r => .tup [.own 3 (r.1.map QL), .b r.2] := by
 obtain ⟨rfl⟩ := H1
 rw [Qc]
 simp -dsimp +contextual only [↓evA, eZ, Nat.reduceAdd, Nat.reduceMul, Nat.reduceBEq, Nat.reduceLeDiff, Nat.reduceLT, Tryz.func211, Tryz.f211, QUb, QDv, Qcu, Zz, QeH]
 try simp only [Qdr, eY]
 all_goals first | rfl | (simp +contextual only [evN] <;> rfl)
theorem QfP (a2 a3 w) {R1 a} [H1 : EncR QC R1 a] : CP T (n + 10) 124 [.agg R1, .i .i64 a2, .i .i64 a3, .i .i64 w] = (ZV a a2 a3 w).map fun r => .tup [.agg (Vz r.1), .b r.2] := by
 obtain ⟨rfl⟩ := H1
 rw [Qc]
 simp -dsimp +contextual (maxSteps := 100000000) only [↓evA, eZ, Nat.reduceAdd, Nat.reduceMul, Nat.reduceBEq, Nat.reduceLeDiff, Nat.reduceLT, Tryz.func124, Tryz.f124, QRe, QBh, Q5, Qot, QgZ]
 try simp only [ZV, eY]
 all_goals rfl
theorem Qpk (d) {R1 a} [H1 : EncR ZX R1 a] : CP T (n + 3) 125 [.agg R1, .i .i64 d] = (QeE a d).map fun r => .i .i64 r := by
 obtain ⟨rfl⟩ := H1
 rw [Qc]
 simp -dsimp +contextual only [↓evA, eZ, Nat.reduceAdd, Nat.reduceMul, Nat.reduceBEq, Nat.reduceLeDiff, Nat.reduceLT, Tryz.func125, Tryz.f125, QQ9, QDs, QeX, QY]
 try simp only [QeE, eY]
 all_goals rfl
theorem QgD {R1 l R2 a} [H1 : EncL QK R1 l] [H2 : EncR QK R2 a] : CP T (n + 4) 126 [.imm 4 R1, .agg R2] = (JP l a).map fun r => .tup [.own 4 (r.1.map QK), .b r.2] := by
 rcases H1, H2 with ⟨⟨rfl⟩, ⟨rfl⟩⟩
 rw [Qc]
 simp -dsimp +contextual only [↓evA, eZ, Nat.reduceAdd, Nat.reduceMul, Nat.reduceBEq, Nat.reduceLeDiff, Nat.reduceLT, Tryz.func126, Tryz.f126, QQw, QCz, QeA, QfH]
 try simp only [JP, eY]
 try simp only [List.contains_nil, Bool.not_false, Bool.and_true, VF, List.length_append, List.length_cons, List.length_nil, Nat.zero_add, VC, VL]
 all_goals first | rfl | (simp +contextual only [evN] <;> rfl)
theorem Qli (a2) {R1 a} [H1 : EncR QC R1 a] : CP T (n + 13) 31 [.agg R1, .i .i64 a2] = (QbT a a2).map fun r => .tup [.agg (Vz r.1), .b r.2] := by
 obtain ⟨rfl⟩ := H1
 rw [Qc]
 simp -dsimp +contextual (maxSteps := 100000000) only [↓evA, eZ, Nat.reduceAdd, Nat.reduceMul, Nat.reduceBEq, Nat.reduceLeDiff, Nat.reduceLT, Tryz.func31, Tryz.f31, a31, n31, srt, QfN, QeY, Q5, Qax, QfP, QgJ, Qpk, QgD, Qac]
 try simp only [QbT, eY]
 all_goals rfl
theorem Qq3 {R1 a} [H1 : EncR Vx R1 a] : CP T (n + 2) 257 [.agg R1] = (Qe8 a).map fun r => .b r := by
 obtain ⟨rfl⟩ := H1
 rw [Qc]
 simp -dsimp +contextual only [↓evA, eZ, Nat.reduceAdd, Nat.reduceMul, Nat.reduceBEq, Nat.reduceLeDiff, Nat.reduceLT, Tryz.func257, Tryz.f257, QSX, QBy, QY]
 try simp only [Qe8, eY]
 all_goals rfl
theorem Qk5 {R1 a R2 c} [H1 : EncR Vx R1 a] [H2 : EncR Vx R2 c] : CP T (n + 1) 259 [.agg R1, .iptr 3 [R2] 0 0] = (QdY a c).map fun r => .b r := by
 rcases H1, H2 with ⟨⟨rfl⟩, ⟨rfl⟩⟩
 rw [Qc]
 simp -dsimp +contextual only [↓evA, eZ, Nat.reduceAdd, Nat.reduceMul, Nat.reduceBEq, Nat.reduceLeDiff, Nat.reduceLT, Tryz.func259, Tryz.f259, QUZ, QBK]
 try simp only [QdY, eY]
 all_goals rfl
theorem QaZ (a a2) {R1 s R2 f} [H1 : EncL Vx R1 s] [H2 : EncR Vx R2 f] : LP T (n + 2) 275 2 (frm [(0, .imm 3 R1), (1, .clo 259 [.iptr 3 [R2] 0 0]), (7, .i .i64 a), (8, .i .i64 a2)]) [] =
  VR (run (QJ s f a) a2) (fun (zr : Int) => (XE.ret, frm [(4, .i .i64 zr)], [])) (fun (zr : Unit) => (XE.exit 0, frm [], [])) := by
 rcases H1, H2 with ⟨⟨rfl⟩, ⟨rfl⟩⟩
 rw [Qn]
 simp -dsimp only [↓evA, evB, Qf, Tryz.func275, Tryz.f275, QKG, QyG, TP, TZ, Nat.reduceAdd, Nat.reduceMul, Nat.reduceBEq, Nat.reduceLeDiff, Nat.reduceLT]
 apply Ql a2
 intro a2
 simp -dsimp +contextual only [↓evA, eZ, Nat.reduceAdd, Nat.reduceMul, Nat.reduceBEq, Nat.reduceLeDiff, Nat.reduceLT, Qk5]
 try simp only [QJ, eY]
 all_goals rfl
theorem QbX {R1 s R2 c} [H1 : EncL Vx R1 s] [H2 : EncR Vx R2 c] : CP T (n + 3) 275 [.imm 3 R1, .clo 259 [.iptr 3 [R2] 0 0]] = (Vy s c).map fun r => .i .i64 r := by
 rcases H1, H2 with ⟨⟨rfl⟩, ⟨rfl⟩⟩
 rw [Qc]
 simp -dsimp +contextual only [↓evA, eZ, Nat.reduceAdd, Nat.reduceMul, Nat.reduceBEq, Nat.reduceLeDiff, Nat.reduceLT, Tryz.func275, Tryz.f275, QKG, QyG, QaZ]
 try simp only [Vy, eY]
 all_goals rfl
theorem Qbh {R1 s R2 c} [H1 : EncL Vx R1 s] [H2 : EncR Vx R2 c] : CP T (n + 4) 258 [.imm 3 R1, .clo 259 [.iptr 3 [R2] 0 0]] = (Q0 s c).map fun r => .b r := by
 rcases H1, H2 with ⟨⟨rfl⟩, ⟨rfl⟩⟩
 rw [Qc]
 simp -dsimp +contextual only [↓evA, eZ, Nat.reduceAdd, Nat.reduceMul, Nat.reduceBEq, Nat.reduceLeDiff, Nat.reduceLT, Tryz.func258, Tryz.f258, QQM, QC6, QbX]
 try simp only [Q0, eY]
 all_goals rfl
theorem Qjy (a2 a3) {R1 l R2 a} [H1 : EncL Vx R1 l] [H2 : EncL Vx R2 a] : LP T (n + 5) 225 4 (frm [(0, .imm 3 R1), (8, .imm 3 R2), (9, .i .i64 a2), (10, .i .i64 a3)]) [] =
  VR (run (Zt l a a2) a3) (fun (zr : Bool) => (XE.ret, frm [(2, .b zr)], [])) (fun (zr : Unit) => (XE.exit 0, frm [], [])) := by
 rcases H1, H2 with ⟨⟨rfl⟩, ⟨rfl⟩⟩
 rw [Qn]
 simp -dsimp only [↓evA, evB, Qf, Tryz.func225, Tryz.f225, QOV, Qzn, TP, TZ, Nat.reduceAdd, Nat.reduceMul, Nat.reduceBEq, Nat.reduceLeDiff, Nat.reduceLT]
 apply Ql a3
 intro a3
 simp -dsimp +contextual only [↓evA, eZ, Nat.reduceAdd, Nat.reduceMul, Nat.reduceBEq, Nat.reduceLeDiff, Nat.reduceLT, Qq3, Qbh]
 try simp only [Zt, eY]
 all_goals rfl
theorem Qod {R1 l} [H1 : EncL Vx R1 l] : CP T (n + 6) 225 [.imm 3 R1] = (QeW l).map fun r => .b r := by
 obtain ⟨rfl⟩ := H1
 rw [Qc]
 simp -dsimp +contextual only [↓evA, eZ, Nat.reduceAdd, Nat.reduceMul, Nat.reduceBEq, Nat.reduceLeDiff, Nat.reduceLT, Tryz.func225, Tryz.f225, QOV, Qzn, Qjy]
 try simp only [QeW, eY]
 all_goals rfl
theorem Qji {R1 s} [H1 : EncL Vx R1 s] : CP T (n + 1) 260 [.imm 3 R1] = (Qcd s).map fun r => .own 3 (r.map Vx) := by
 obtain ⟨rfl⟩ := H1
 rw [Qc]
 simp -dsimp +contextual only [↓evA, eZ, Nat.reduceAdd, Nat.reduceMul, Nat.reduceBEq, Nat.reduceLeDiff, Nat.reduceLT, Tryz.func260, Tryz.f260, QUM, QDI]
 try simp only [Qcd, eY]
 all_goals first | rfl | (simp +contextual only [evN] <;> rfl)
theorem QmX (a) : CP T (n + 1) 277 [.i .i64 a] = (QcE a).map fun r => .b r := by
 rw [Qc]
 simp -dsimp +contextual only [↓evA, eZ, Nat.reduceAdd, Nat.reduceMul, Nat.reduceBEq, Nat.reduceLeDiff, Nat.reduceLT, Tryz.func277, Tryz.f277, QSy, QAm]
 try simp only [QcE, eY]
 all_goals rfl
theorem QjX (a a2) : CP T (n + 2) 263 [.i .i64 a, .i .i64 a2] = (Qc1 a a2).map fun r => .i .i64 r := by
 rw [Qc]
 simp -dsimp +contextual only [↓evA, eZ, Nat.reduceAdd, Nat.reduceMul, Nat.reduceBEq, Nat.reduceLeDiff, Nat.reduceLT, Tryz.func263, Tryz.f263, QRx, QDn, QmX]
 try simp only [Qc1, eY]
 all_goals rfl
theorem Qiy {R1 a R2 b} [H1 : EncR Vx R1 a] [H2 : EncR Vx R2 b] : CP T (n + 3) 262 [.agg R1, .agg R2] = (ZL a b).map fun r => .i .i64 r := by
 rcases H1, H2 with ⟨⟨rfl⟩, ⟨rfl⟩⟩
 rw [Qc]
 simp -dsimp +contextual only [↓evA, eZ, Nat.reduceAdd, Nat.reduceMul, Nat.reduceBEq, Nat.reduceLeDiff, Nat.reduceLT, Tryz.func262, Tryz.f262, QQP, QCw, QjX]
 try simp only [ZL, eY]
 all_goals rfl
theorem X9 (a b i j) {R1 d} [H1 : EncL Vx R1 d] : LP T (n + 4) 284 4 (frm [(0, .sl 0), (1, .i .i64 a), (2, .i .i64 b), (3, .clo 262 []), (8, .i .i64 i), (9, .i .i64 j)]) [some (Ent.lst 3 R1)] =
  (run (Qr a b i) (d, j)).map (fun (zr : (List Bid)) => (XE.exit 2, frm [(0, .sl 0), (1, .i .i64 a), (2, .i .i64 b), (3, .clo 262 []), (8, .i .i64 i)], [some (Ent.lst 3 (zr.map Vx))])) := by
 obtain ⟨rfl⟩ := H1
 rw [Qn]
 simp -dsimp only [↓evA, evB, Qf, Tryz.func284, Tryz.f284, QHm, Qwc, TP, TZ, Nat.reduceAdd, Nat.reduceMul, Nat.reduceBEq, Nat.reduceLeDiff, Nat.reduceLT]
 apply QD d j
 intro d j
 simp -dsimp +contextual only [↓evA, eZ, Nat.reduceAdd, Nat.reduceMul, Nat.reduceBEq, Nat.reduceLeDiff, Nat.reduceLT, Qiy]
 try simp only [Qr, eY]
 all_goals rfl
theorem X8 (a b i) {R1 d} [H1 : EncL Vx R1 d] : LP T (n + 5) 284 1 (frm [(0, .sl 0), (1, .i .i64 a), (2, .i .i64 b), (3, .clo 262 []), (8, .i .i64 i)]) [some (Ent.lst 3 R1)] =
  (run (Qj a b) (d, i)).map (fun (zr : (List Bid)) => (XE.exit 0, frm [(0, .sl 0)], [some (Ent.lst 3 (zr.map Vx))])) := by
 obtain ⟨rfl⟩ := H1
 rw [Qn]
 simp -dsimp only [↓evA, evB, Qf, Tryz.func284, Tryz.f284, QHm, Qwc, TP, TZ, Nat.reduceAdd, Nat.reduceMul, Nat.reduceBEq, Nat.reduceLeDiff, Nat.reduceLT]
 apply QD d i
 intro d i
 simp -dsimp +contextual only [↓evA, eZ, Nat.reduceAdd, Nat.reduceMul, Nat.reduceBEq, Nat.reduceLeDiff, Nat.reduceLT, X9]
 try simp only [Qj, eY]
 all_goals rfl
theorem VI (a b) {R1 d} [H1 : EncL Vx R1 d] : CA T (n + 6) 284 [some (Ent.lst 3 R1)] [.sl 0, .i .i64 a, .i .i64 b, .clo 262 []] = (Qh d a b).map fun r => (.tup [], [some (Ent.lst 3 (r.map Vx))]) := by
 obtain ⟨rfl⟩ := H1
 rw [Qft]
 simp -dsimp +contextual only [↓evA, eZ, Nat.reduceAdd, Nat.reduceMul, Nat.reduceBEq, Nat.reduceLeDiff, Nat.reduceLT, Tryz.func284, Tryz.f284, QHm, Qwc, X8]
 try simp only [Qh, eY]
 all_goals rfl
theorem Zp (a b a2 b2) {R1 d} [H1 : EncL Vx R1 d] : LP T (n + 7) 276 2 (frm [(0, .sl 0), (1, .i .i64 a), (2, .clo 262 []), (6, .i .i64 b), (7, .i .i64 a2), (8, .i .i64 b2)]) [some (Ent.lst 3 R1)] =
  (run (Qk a b) (d, a2, b2)).map (fun (zr : (List Bid) × Int) => (XE.exit 0, frm [(0, .sl 0), (1, .i .i64 a), (2, .clo 262 []), (6, .i .i64 b), (7, .i .i64 zr.2)], [some (Ent.lst 3 (zr.1.map Vx))])) := by
 obtain ⟨rfl⟩ := H1
 rw [Qn]
 simp -dsimp only [↓evA, evB, Qf, Tryz.func276, Tryz.f276, QA9, QtY, TP, TZ, Nat.reduceAdd, Nat.reduceMul, Nat.reduceBEq, Nat.reduceLeDiff, Nat.reduceLT]
 apply JG d a2 b2
 intro d a2 b2
 simp -dsimp +contextual only [↓evA, eZ, Nat.reduceAdd, Nat.reduceMul, Nat.reduceBEq, Nat.reduceLeDiff, Nat.reduceLT, srt, VI]
 try simp only [Qk, eY]
 all_goals rfl
end Go.Proofs.YtcdffihcfeajfaaGreat
