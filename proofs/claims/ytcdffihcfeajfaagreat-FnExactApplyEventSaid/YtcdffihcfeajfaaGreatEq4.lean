import Derived.Test.YtcdffihcfeajfaaGreatEq3
namespace Go.Proofs.YtcdffihcfeajfaaGreat
open Go Go.Proofs Go.Proofs.YtcdffihcfeajfaaGreat.Am
set_option maxHeartbeats 4000000
set_option linter.unusedVariables false
set_option linter.unusedSimpArgs false
set_option linter.defProp false
set_option maxRecDepth 100000
variable (n : Nat)
theorem QgD (v a a2) {R1 s} [H1 : EncL Vf R1 s] : LP T (n + 1) 266 2 (frm [(0, .imm 1 R1), (1, .i .i64 v), (7, .i .i64 a), (8, .i .i64 a2)]) [] =
  VU (run (Xt s v a) a2) (fun (zr : Int) => (XE.ret, frm [(4, .i .i64 zr)], [])) (fun (zr : Unit) => (XE.exit 0, frm [], [])) := by
 obtain ⟨rfl⟩ := H1
 rw [Qm]
 simp -dsimp only [↓evA, evB, Qf, Tryz.func266, Tryz.f266, QO0, Qy3, TP, TZ, Nat.reduceAdd, Nat.reduceMul, Nat.reduceBEq, Nat.reduceLeDiff, Nat.reduceLT]
 apply Ql a2
 intro a2
 simp -dsimp +contextual only [↓evA, eZ, Nat.reduceAdd, Nat.reduceMul, Nat.reduceBEq, Nat.reduceLeDiff, Nat.reduceLT]
 try simp only [Xt, eY]
 all_goals rfl
theorem QiT (v) {R1 s} [H1 : EncL Vf R1 s] : CP T (n + 2) 266 [.imm 1 R1, .i .i64 v] = (Qb7 s v).map fun r => .i .i64 r := by
 obtain ⟨rfl⟩ := H1
 rw [Qc]
 simp -dsimp +contextual only [↓evA, eZ, Nat.reduceAdd, Nat.reduceMul, Nat.reduceBEq, Nat.reduceLeDiff, Nat.reduceLT, Tryz.func266, Tryz.f266, QO0, Qy3, QgD]
 try simp only [Qb7, eY]
 all_goals rfl
theorem QgF (v) {R1 s} [H1 : EncL Vf R1 s] : CP T (n + 3) 237 [.imm 1 R1, .i .i64 v] = (JC s v).map fun r => .b r := by
 obtain ⟨rfl⟩ := H1
 rw [Qc]
 simp -dsimp +contextual only [↓evA, eZ, Nat.reduceAdd, Nat.reduceMul, Nat.reduceBEq, Nat.reduceLeDiff, Nat.reduceLT, Tryz.func237, Tryz.f237, QRR, QAc, QiT]
 try simp only [JC, eY]
 all_goals rfl
theorem QjV (a4 a5) {R1 a R2 a2 R3 a3} [H1 : EncR QD R1 a] [H2 : EncL Vf R2 a2] [H3 : EncL Qv R3 a3] : LP T (n + 5) 162 5 (frm [(1, .ptr 0 0 0), (3, .sl 1), (23, .imm 8 R3), (24, .i .i64 a4), (25, .i .i64 a5)]) [some (Ent.box R1), some (Ent.lst 1 R2)] =
  VU (run (Zu a a2 a3 a4) a5) (fun (zr : Bool) => (XE.ret, frm [(2, .b zr)], [])) (fun (zr : Unit) => (XE.exit 0, frm [(1, .ptr 0 0 0), (3, .sl 1)], [some (Ent.box (QD a)), some (Ent.lst 1 (a2.map Vf))])) := by
 rcases H1, H2, H3 with ⟨⟨rfl⟩, ⟨rfl⟩, ⟨rfl⟩⟩
 rw [Qm]
 simp -dsimp only [↓evA, evB, Qf, Tryz.func162, Tryz.f162, QBO, QtR, TP, TZ, Nat.reduceAdd, Nat.reduceMul, Nat.reduceBEq, Nat.reduceLeDiff, Nat.reduceLT]
 apply Ql a5
 intro a5
 simp -dsimp +contextual (maxSteps := 100000000) only [↓evA, eZ, Nat.reduceAdd, Nat.reduceMul, Nat.reduceBEq, Nat.reduceLeDiff, Nat.reduceLT, Zt, QgF]
 try simp only [Zu, eY]
 all_goals rfl
theorem Qi9 (a4 a5) {R1 a R2 a2 R3 a3} [H1 : EncR QD R1 a] [H2 : EncL Vf R2 a2] [H3 : EncL QP R3 a3] : LP T (n + 5) 162 11 (frm [(1, .ptr 0 0 0), (3, .sl 1), (57, .imm 3 R3), (58, .i .i64 a4), (59, .i .i64 a5)]) [some (Ent.box R1), some (Ent.lst 1 R2)] =
  VU (run (J1 a a2 a3 a4) a5) (fun (zr : Bool) => (XE.ret, frm [(2, .b zr)], [])) (fun (zr : Unit) => (XE.exit 2, frm [(1, .ptr 0 0 0), (3, .sl 1)], [some (Ent.box (QD a)), some (Ent.lst 1 (a2.map Vf))])) := by
 rcases H1, H2, H3 with ⟨⟨rfl⟩, ⟨rfl⟩, ⟨rfl⟩⟩
 rw [Qm]
 simp -dsimp only [↓evA, evB, Qf, Tryz.func162, Tryz.f162, QBO, QtR, TP, TZ, Nat.reduceAdd, Nat.reduceMul, Nat.reduceBEq, Nat.reduceLeDiff, Nat.reduceLT]
 apply Ql a5
 intro a5
 simp -dsimp +contextual (maxSteps := 100000000) only [↓evA, eZ, Nat.reduceAdd, Nat.reduceMul, Nat.reduceBEq, Nat.reduceLeDiff, Nat.reduceLT, Qaa]
 try simp only [J1, eY]
 all_goals rfl
theorem QiY (a3 a4) {R1 a R2 a2} [H1 : EncR QD R1 a] [H2 : EncL Vf R2 a2] : LP T (n + 5) 162 17 (frm [(1, .ptr 0 0 0), (75, .sl 1), (76, .i .i64 a3), (77, .i .i64 a4)]) [some (Ent.box R1), some (Ent.lst 1 R2)] =
  VU (run (J2 a a2 a3) a4) (fun (zr : Bool) => (XE.ret, frm [(2, .b zr)], [])) (fun (zr : Unit) => (XE.exit 4, frm [], [])) := by
 rcases H1, H2 with ⟨⟨rfl⟩, ⟨rfl⟩⟩
 rw [Qm]
 simp -dsimp only [↓evA, evB, Qf, Tryz.func162, Tryz.f162, QBO, QtR, TP, TZ, Nat.reduceAdd, Nat.reduceMul, Nat.reduceBEq, Nat.reduceLeDiff, Nat.reduceLT]
 apply Ql a4
 intro a4
 simp -dsimp +contextual (maxSteps := 100000000) only [↓evA, eZ, Nat.reduceAdd, Nat.reduceMul, Nat.reduceBEq, Nat.reduceLeDiff, Nat.reduceLT, Qaa]
 try simp only [J2, eY]
 all_goals rfl
theorem Qm5 {R1 a} [H1 : EncR QD R1 a] : CP T (n + 10) 162 [.agg R1] = (QaB a).map fun r => .b r := by
 obtain ⟨rfl⟩ := H1
 rw [Qc]
 simp -dsimp +contextual (maxSteps := 100000000) only [↓evA, eZ, Nat.reduceAdd, Nat.reduceMul, Nat.reduceBEq, Nat.reduceLeDiff, Nat.reduceLT, Tryz.func162, Tryz.f162, QBO, QtR, QoI, QjV, Qi9, QiY]
 try simp only [QaB, eY]
 all_goals rfl
theorem Qg2 {R1 a} [H1 : EncR QJ R1 a] : CP T (n + 2) 196 [.agg R1] = (QbX a).map fun r => .b r := by
 obtain ⟨rfl⟩ := H1
 rw [Qc]
 simp -dsimp +contextual only [↓evA, eZ, Nat.reduceAdd, Nat.reduceMul, Nat.reduceBEq, Nat.reduceLeDiff, Nat.reduceLT, Tryz.func196, Tryz.f196, QSK, QBW, QV]
 try simp only [QbX, eY]
 all_goals rfl
theorem Qhe (a) {R1 l} [H1 : EncL QC R1 l] : CP T (n + 5) 107 [.imm 3 R1, .i .i64 a] = (Qb9 l a).map fun r => .own 2 (r.map Q9) := by
 obtain ⟨rfl⟩ := H1
 rw [Qc]
 simp -dsimp +contextual only [↓evA, eZ, Nat.reduceAdd, Nat.reduceMul, Nat.reduceBEq, Nat.reduceLeDiff, Nat.reduceLT, Tryz.func107, Tryz.f107, QQ2, QBc, Qgq, Qch]
 try simp only [Qb9, eY]
 all_goals first | rfl | (simp +contextual only [evN] <;> rfl)
theorem Qnm {R1 l} [H1 : EncL Q9 R1 l] : CP T (n + 1) 198 [.imm 2 R1] = (Qb0 l).map fun r => .i .i64 r := by
 obtain ⟨rfl⟩ := H1
 rw [Qc]
 simp -dsimp +contextual only [↓evA, eZ, Nat.reduceAdd, Nat.reduceMul, Nat.reduceBEq, Nat.reduceLeDiff, Nat.reduceLT, Tryz.func198, Tryz.f198, QSa, QDv]
 try simp only [Qb0, eY]
 all_goals rfl
theorem Qdq {R1 l R2 a} [H1 : EncL Q9 R1 l] [H2 : EncR QJ R2 a] : CP T (n + 4) 109 [.imm 2 R1, .agg R2] = (Jq l a).map fun r => .i .i64 r := by
 rcases H1, H2 with ⟨⟨rfl⟩, ⟨rfl⟩⟩
 rw [Qc]
 simp -dsimp +contextual only [↓evA, eZ, Nat.reduceAdd, Nat.reduceMul, Nat.reduceBEq, Nat.reduceLeDiff, Nat.reduceLT, Tryz.func109, Tryz.f109, QRi, QBX, Qg2, Qeu, Qnm]
 try simp only [Jq, eY]
 all_goals rfl
theorem Qo8 (s) : CP T (n + 1) 238 [.i .i64 s] = (Qc3 s).map fun r => .i .i64 r := by
 rw [Qc]
 simp -dsimp +contextual only [↓evA, eZ, Nat.reduceAdd, Nat.reduceMul, Nat.reduceBEq, Nat.reduceLeDiff, Nat.reduceLT, Tryz.func238, Tryz.f238, QT4, QDN]
 try simp only [Qc3, eY]
 all_goals rfl
theorem Qh0 (a3 a4) {R1 a R2 a2} [H1 : EncR QD R1 a] [H2 : EncL Qg R2 a2] : LP T (n + 6) 163 4 (frm [(1, .ptr 0 0 0), (14, .imm 5 R2), (15, .i .i64 a3), (16, .i .i64 a4)]) [some (Ent.box R1)] =
  VU (run (Q6 a a2 a3) a4) (fun (zr : Bool) => (XE.ret, frm [(2, .b zr)], [])) (fun (zr : Unit) => (XE.exit 0, frm [], [])) := by
 rcases H1, H2 with ⟨⟨rfl⟩, ⟨rfl⟩⟩
 rw [Qm]
 simp -dsimp only [↓evA, evB, Qf, Tryz.func163, Tryz.f163, QOE, QxZ, TP, TZ, Nat.reduceAdd, Nat.reduceMul, Nat.reduceBEq, Nat.reduceLeDiff, Nat.reduceLT]
 apply Ql a4
 intro a4
 simp -dsimp +contextual (maxSteps := 100000000) only [↓evA, eZ, Nat.reduceAdd, Nat.reduceMul, Nat.reduceBEq, Nat.reduceLeDiff, Nat.reduceLT, Qaa, Qg2, Qhe, Qdq, Qo8]
 try simp only [Q6, eY]
 all_goals rfl
theorem QlD {R1 a} [H1 : EncR QD R1 a] : CP T (n + 7) 163 [.agg R1] = (VN a).map fun r => .b r := by
 obtain ⟨rfl⟩ := H1
 rw [Qc]
 simp -dsimp +contextual (maxSteps := 100000000) only [↓evA, eZ, Nat.reduceAdd, Nat.reduceMul, Nat.reduceBEq, Nat.reduceLeDiff, Nat.reduceLT, Tryz.func163, Tryz.f163, QOE, QxZ, Qh0]
 try simp only [VN, eY]
 all_goals rfl
theorem Qly (a2 a4 a5) {R1 a R2 a3} [H1 : EncR QD R1 a] [H2 : EncL Qv R2 a3] : LP T (n + 1) 164 3 (frm [(1, .ptr 0 0 0), (3, .i .i64 a2), (13, .imm 8 R2), (14, .i .i64 a4), (15, .i .i64 a5)]) [some (Ent.box R1)] =
  (run (Qal a a3 a4) (a2, a5)).map (fun (zr : Int) => (XE.exit 0, frm [(1, .ptr 0 0 0), (3, .i .i64 zr)], [some (Ent.box (QD a))])) := by
 rcases H1, H2 with ⟨⟨rfl⟩, ⟨rfl⟩⟩
 rw [Qm]
 simp -dsimp only [↓evA, evB, Qf, Tryz.func164, Tryz.f164, QxJ, Qr8, TP, TZ, Nat.reduceAdd, Nat.reduceMul, Nat.reduceBEq, Nat.reduceLeDiff, Nat.reduceLT]
 apply QH a2 a5
 intro a2 a5
 simp -dsimp +contextual (maxSteps := 100000000) only [↓evA, eZ, Nat.reduceAdd, Nat.reduceMul, Nat.reduceBEq, Nat.reduceLeDiff, Nat.reduceLT]
 try simp only [Qal, eY]
 all_goals rfl
theorem Qlv (a2 a4 a5) {R1 a R2 a3} [H1 : EncR QD R1 a] [H2 : EncL Qg R2 a3] : LP T (n + 1) 164 8 (frm [(1, .ptr 0 0 0), (3, .i .i64 a2), (25, .imm 5 R2), (26, .i .i64 a4), (27, .i .i64 a5)]) [some (Ent.box R1)] =
  (run (Qas a a3 a4) (a2, a5)).map (fun (zr : Int) => (XE.exit 2, frm [(1, .ptr 0 0 0), (3, .i .i64 zr)], [some (Ent.box (QD a))])) := by
 rcases H1, H2 with ⟨⟨rfl⟩, ⟨rfl⟩⟩
 rw [Qm]
 simp -dsimp only [↓evA, evB, Qf, Tryz.func164, Tryz.f164, QxJ, Qr8, TP, TZ, Nat.reduceAdd, Nat.reduceMul, Nat.reduceBEq, Nat.reduceLeDiff, Nat.reduceLT]
 apply QH a2 a5
 intro a2 a5
 simp -dsimp +contextual (maxSteps := 100000000) only [↓evA, eZ, Nat.reduceAdd, Nat.reduceMul, Nat.reduceBEq, Nat.reduceLeDiff, Nat.reduceLT]
 try simp only [Qas, eY]
 all_goals rfl
theorem QjG (a2 a4 a5) {R1 a R2 a3} [H1 : EncR QD R1 a] [H2 : EncL Va R2 a3] : LP T (n + 1) 164 13 (frm [(1, .ptr 0 0 0), (3, .i .i64 a2), (37, .imm 5 R2), (38, .i .i64 a4), (39, .i .i64 a5)]) [some (Ent.box R1)] =
  (run (Zz a a3 a4) (a2, a5)).map (fun (zr : Int) => (XE.exit 4, frm [(1, .ptr 0 0 0), (3, .i .i64 zr)], [some (Ent.box (QD a))])) := by
 rcases H1, H2 with ⟨⟨rfl⟩, ⟨rfl⟩⟩
 rw [Qm]
 simp -dsimp only [↓evA, evB, Qf, Tryz.func164, Tryz.f164, QxJ, Qr8, TP, TZ, Nat.reduceAdd, Nat.reduceMul, Nat.reduceBEq, Nat.reduceLeDiff, Nat.reduceLT]
 apply QH a2 a5
 intro a2 a5
 simp -dsimp +contextual (maxSteps := 100000000) only [↓evA, eZ, Nat.reduceAdd, Nat.reduceMul, Nat.reduceBEq, Nat.reduceLeDiff, Nat.reduceLT]
 try simp only [Zz, eY]
 all_goals rfl
theorem Qkd (a a3 a4) {R1 a2} [H1 : EncL QX R1 a2] : LP T (n + 1) 164 18 (frm [(3, .i .i64 a), (49, .imm 4 R1), (50, .i .i64 a3), (51, .i .i64 a4)]) [] =
  (run (Zo a2 a3) (a, a4)).map (fun (zr : Int) => (XE.exit 6, frm [(3, .i .i64 zr)], [])) := by
 obtain ⟨rfl⟩ := H1
 rw [Qm]
 simp -dsimp only [↓evA, evB, Qf, Tryz.func164, Tryz.f164, QxJ, Qr8, TP, TZ, Nat.reduceAdd, Nat.reduceMul, Nat.reduceBEq, Nat.reduceLeDiff, Nat.reduceLT]
 apply QH a a4
 intro a a4
 simp -dsimp +contextual only [↓evA, eZ, Nat.reduceAdd, Nat.reduceMul, Nat.reduceBEq, Nat.reduceLeDiff, Nat.reduceLT]
 try simp only [Zo, eY]
 all_goals rfl
theorem Qo3 {R1 a} [H1 : EncR QD R1 a] : CP T (n + 2) 164 [.agg R1] = (Qed a).map fun r => .i .i64 r := by
 obtain ⟨rfl⟩ := H1
 rw [Qc]
 simp -dsimp +contextual (maxSteps := 100000000) only [↓evA, eZ, Nat.reduceAdd, Nat.reduceMul, Nat.reduceBEq, Nat.reduceLeDiff, Nat.reduceLT, Tryz.func164, Tryz.f164, QxJ, Qr8, Qly, Qlv, QjG, Qkd]
 try simp only [Qed, eY]
 all_goals rfl
theorem Qaj {R1 a} [H1 : EncR QD R1 a] : CP T (n + 11) 64 [.agg R1] = (Vp a).map fun r => .b r := by
 obtain ⟨rfl⟩ := H1
 rw [Qc]
 simp -dsimp +contextual (maxSteps := 100000000) only [↓evA, eZ, Nat.reduceAdd, Nat.reduceMul, Nat.reduceBEq, Nat.reduceLeDiff, Nat.reduceLT, Tryz.func64, Tryz.f64, a64, n64, QV, Qgs, Qff, Qet, QdU, QeN, Qe8, Qm5, QlD, Qo3]
 try simp only [Vp, eY]
 all_goals rfl
theorem Qab (oxNo oxNow) {R1 a R2 oxFinds R3 oxSecrets R4 oxSlots R5 oxClaims R6 oxTrials R7 oxChain R8 oxBook R9 d} [H1 : EncR QD R1 a] [H2 : EncL Qv R2 oxFinds] [H3 : EncL QG R3 oxSecrets] [H4 : EncL QP R4 oxSlots] [H5 : EncL Qg R5 oxClaims] [H6 : EncL QJ R6 oxTrials] [H7 : EncL Va R7 oxChain] [H8 : EncL QX R8 oxBook] [H9 : EncL c_b R9 d] : CM T (n + 12) 100 [some (Ent.lst 8 R2), some (Ent.lst 3 R3), some (Ent.lst 3 R4), some (Ent.lst 5 R5), some (Ent.lst 4 R6), some (Ent.lst 5 R7), some (Ent.lst 4 R8), some (Ent.lst 1 R9)] [.agg R1, .agg [.i .i64 oxNo, .sl 0, .sl 1, .sl 2, .sl 3, .sl 4, .sl 5, .sl 6, .i .i64 oxNow], .sl 7] = (Vw a (⟨oxNo, oxFinds, oxSecrets, oxSlots, oxClaims, oxTrials, oxChain, oxBook, oxNow⟩ : House) d).map fun r => .tup [.agg (VG r.1), .b r.2] := by
 rcases H1, H2, H3, H4, H5, H6, H7, H8, H9 with ⟨⟨rfl⟩, ⟨rfl⟩, ⟨rfl⟩, ⟨rfl⟩, ⟨rfl⟩, ⟨rfl⟩, ⟨rfl⟩, ⟨rfl⟩, ⟨rfl⟩⟩
 rw [Qpr]
 simp -dsimp +contextual (maxSteps := 100000000) only [↓evA, eZ, Nat.reduceAdd, Nat.reduceMul, Nat.reduceBEq, Nat.reduceLeDiff, Nat.reduceLT, Tryz.func100, Tryz.f100, QFf, Qvt, QaD, Qaj, Vh]
 try simp only [Vw, eY]
 all_goals rfl
theorem Qmx (a4) {R1 a R2 a2 R3 a3} [H1 : EncR QD R1 a] [H2 : EncR Qv R2 a2] [H3 : EncL Q9 R3 a3] : CP T (n + 13) 38 [.agg R1, .agg R2, .imm 2 R3, .i .i64 a4] = (Qcs a a2 a3 a4).map fun r => .tup [.agg (VG r.1), .b r.2] := by
 rcases H1, H2, H3 with ⟨⟨rfl⟩, ⟨rfl⟩, ⟨rfl⟩⟩
 rw [Qc]
 simp -dsimp +contextual (maxSteps := 100000000) only [↓evA, eZ, Nat.reduceAdd, Nat.reduceMul, Nat.reduceBEq, Nat.reduceLeDiff, Nat.reduceLT, Tryz.func38, Tryz.f38, a38, n38, srt, Vh, QnU, Qlb, Qoz, QgT, Qab]
 try simp only [Qcs, eY]
 all_goals rfl
theorem QiF (c) {R1 a} [H1 : EncR Qg R1 a] : CP T (n + 1) 191 [.agg R1, .iptr 1 [[.i .i64 c]] 0 0] = (QbZ a c).map fun r => .b r := by
 obtain ⟨rfl⟩ := H1
 rw [Qc]
 simp -dsimp +contextual only [↓evA, eZ, Nat.reduceAdd, Nat.reduceMul, Nat.reduceBEq, Nat.reduceLeDiff, Nat.reduceLT, Tryz.func191, Tryz.f191, QPV, QCx]
 try simp only [QbZ, eY]
 all_goals rfl
theorem ZX (f a a2) {R1 s} [H1 : EncL Qg R1 s] : LP T (n + 2) 190 2 (frm [(0, .imm 5 R1), (1, .clo 191 [.iptr 1 [[.i .i64 f]] 0 0]), (7, .i .i64 a), (8, .i .i64 a2)]) [] =
  VU (run (Qw s f a) a2) (fun (zr : Int) => (XE.ret, frm [(4, .i .i64 zr)], [])) (fun (zr : Unit) => (XE.exit 0, frm [], [])) := by
 obtain ⟨rfl⟩ := H1
 rw [Qm]
 simp -dsimp only [↓evA, evB, Qf, Tryz.func190, Tryz.f190, QvT, Qqt, TP, TZ, Nat.reduceAdd, Nat.reduceMul, Nat.reduceBEq, Nat.reduceLeDiff, Nat.reduceLT]
 apply Ql a2
 intro a2
 simp -dsimp +contextual only [↓evA, eZ, Nat.reduceAdd, Nat.reduceMul, Nat.reduceBEq, Nat.reduceLeDiff, Nat.reduceLT, QiF]
 try simp only [Qw, eY]
 all_goals rfl
theorem QaC (c) {R1 s} [H1 : EncL Qg R1 s] : CP T (n + 3) 190 [.imm 5 R1, .clo 191 [.iptr 1 [[.i .i64 c]] 0 0]] = (Vk s c).map fun r => .i .i64 r := by
 obtain ⟨rfl⟩ := H1
 rw [Qc]
 simp -dsimp +contextual only [↓evA, eZ, Nat.reduceAdd, Nat.reduceMul, Nat.reduceBEq, Nat.reduceLeDiff, Nat.reduceLT, Tryz.func190, Tryz.f190, QvT, Qqt, ZX]
 try simp only [Vk, eY]
 all_goals rfl
theorem Qao (i) {R1 l} [H1 : EncL Qg R1 l] : CP T (n + 4) 106 [.imm 5 R1, .i .i64 i] = (V0 l i).map fun r => .i .i64 r := by
 obtain ⟨rfl⟩ := H1
 rw [Qc]
 simp -dsimp +contextual only [↓evA, eZ, Nat.reduceAdd, Nat.reduceMul, Nat.reduceBEq, Nat.reduceLeDiff, Nat.reduceLT, Tryz.func106, Tryz.f106, QUf, QBv, QaC]
 try simp only [V0, eY]
 all_goals rfl
theorem Qkj {R1 a R2 c} [H1 : EncR Qg R1 a] [H2 : EncR Qg R2 c] : CP T (n + 1) 200 [.agg R1, .iptr 5 [R2] 0 0] = (QcL a c).map fun r => .b r := by
 rcases H1, H2 with ⟨⟨rfl⟩, ⟨rfl⟩⟩
 rw [Qc]
 simp -dsimp +contextual only [↓evA, eZ, Nat.reduceAdd, Nat.reduceMul, Nat.reduceBEq, Nat.reduceLeDiff, Nat.reduceLT, Tryz.func200, Tryz.f200, QRl, Qz3]
 try simp only [QcL, eY]
 all_goals rfl
theorem Qan (a a2) {R1 s R2 f} [H1 : EncL Qg R1 s] [H2 : EncR Qg R2 f] : LP T (n + 2) 190 2 (frm [(0, .imm 5 R1), (1, .clo 200 [.iptr 5 [R2] 0 0]), (7, .i .i64 a), (8, .i .i64 a2)]) [] =
  VU (run (Qx s f a) a2) (fun (zr : Int) => (XE.ret, frm [(4, .i .i64 zr)], [])) (fun (zr : Unit) => (XE.exit 0, frm [], [])) := by
 rcases H1, H2 with ⟨⟨rfl⟩, ⟨rfl⟩⟩
 rw [Qm]
 simp -dsimp only [↓evA, evB, Qf, Tryz.func190, Tryz.f190, QvT, Qqt, TP, TZ, Nat.reduceAdd, Nat.reduceMul, Nat.reduceBEq, Nat.reduceLeDiff, Nat.reduceLT]
 apply Ql a2
 intro a2
 simp -dsimp +contextual only [↓evA, eZ, Nat.reduceAdd, Nat.reduceMul, Nat.reduceBEq, Nat.reduceLeDiff, Nat.reduceLT, Qkj]
 try simp only [Qx, eY]
 all_goals rfl
theorem QaP {R1 s R2 c} [H1 : EncL Qg R1 s] [H2 : EncR Qg R2 c] : CP T (n + 3) 190 [.imm 5 R1, .clo 200 [.iptr 5 [R2] 0 0]] = (Vm s c).map fun r => .i .i64 r := by
 rcases H1, H2 with ⟨⟨rfl⟩, ⟨rfl⟩⟩
 rw [Qc]
 simp -dsimp +contextual only [↓evA, eZ, Nat.reduceAdd, Nat.reduceMul, Nat.reduceBEq, Nat.reduceLeDiff, Nat.reduceLT, Tryz.func190, Tryz.f190, QvT, Qqt, Qan]
 try simp only [Vm, eY]
 all_goals rfl
theorem Qac {R1 s R2 c} [H1 : EncL Qg R1 s] [H2 : EncR Qg R2 c] : CP T (n + 4) 199 [.imm 5 R1, .clo 200 [.iptr 5 [R2] 0 0]] = (QO s c).map fun r => .b r := by
 rcases H1, H2 with ⟨⟨rfl⟩, ⟨rfl⟩⟩
 rw [Qc]
 simp -dsimp +contextual only [↓evA, eZ, Nat.reduceAdd, Nat.reduceMul, Nat.reduceBEq, Nat.reduceLeDiff, Nat.reduceLT, Tryz.func199, Tryz.f199, QHN, Qym, QaP]
 try simp only [QO, eY]
 all_goals rfl
theorem QiD (a2) {R1 l R2 a R3 o} [H1 : EncL Qg R1 l] [H2 : EncR Qg R2 a] [H3 : EncL Qg R3 o] : LP T (n + 1) 113 5 (frm [(0, .imm 5 R1), (3, .ptr 0 0 0), (6, .sl 1), (7, .i .i64 a2)]) [some (Ent.box R2), some (Ent.lst 5 R3)] =
  (run (J3 l a o) a2).map (fun (zr : Int) => (XE.exit 0, frm [(0, .imm 5 (l.map Qg)), (3, .ptr 0 0 0), (6, .sl 1), (7, .i .i64 zr)], [some (Ent.box (Qg a)), some (Ent.lst 5 (o.map Qg))])) := by
 rcases H1, H2, H3 with ⟨⟨rfl⟩, ⟨rfl⟩, ⟨rfl⟩⟩
 rw [Qm]
 simp -dsimp only [↓evA, evB, Qf, Tryz.func113, Tryz.f113, QL3, Qzx, TP, TZ, Nat.reduceAdd, Nat.reduceMul, Nat.reduceBEq, Nat.reduceLeDiff, Nat.reduceLT]
 apply Ql a2
 intro a2
 simp -dsimp +contextual only [↓evA, eZ, Nat.reduceAdd, Nat.reduceMul, Nat.reduceBEq, Nat.reduceLeDiff, Nat.reduceLT, srt]
 try simp only [J3, eY]
 all_goals rfl
theorem Qmn {R1 l R2 a} [H1 : EncL Qg R1 l] [H2 : EncR Qg R2 a] : CP T (n + 5) 113 [.imm 5 R1, .agg R2] = (QcF l a).map fun r => .tup [.own 5 (r.1.map Qg), .b r.2] := by
 rcases H1, H2 with ⟨⟨rfl⟩, ⟨rfl⟩⟩
 rw [Qc]
 simp -dsimp +contextual only [↓evA, eZ, Nat.reduceAdd, Nat.reduceMul, Nat.reduceBEq, Nat.reduceLeDiff, Nat.reduceLT, Tryz.func113, Tryz.f113, QL3, Qzx, srt, QbI, Qao, Qac, QC7, QdU, QiD]
 try simp only [QcF, eY]
 all_goals first | rfl | (simp +contextual only [evN] <;> rfl)
theorem Qjm (oxNo oxNow) {R1 a R2 oxFinds R3 oxSecrets R4 oxSlots R5 oxClaims R6 oxTrials R7 oxChain R8 oxBook} [H1 : EncR QD R1 a] [H2 : EncL Qv R2 oxFinds] [H3 : EncL QG R3 oxSecrets] [H4 : EncL QP R4 oxSlots] [H5 : EncL Qg R5 oxClaims] [H6 : EncL QJ R6 oxTrials] [H7 : EncL Va R7 oxChain] [H8 : EncL QX R8 oxBook] : CM T (n + 12) 100 [some (Ent.lst 8 R2), some (Ent.lst 3 R3), some (Ent.lst 3 R4), some (Ent.lst 5 R5), some (Ent.lst 4 R6), some (Ent.lst 5 R7), some (Ent.lst 4 R8)] [.agg R1, .agg [.i .i64 oxNo, .sl 0, .sl 1, .sl 2, .sl 3, .sl 4, .sl 5, .sl 6, .i .i64 oxNow], .nil] = (Qa0 a (⟨oxNo, oxFinds, oxSecrets, oxSlots, oxClaims, oxTrials, oxChain, oxBook, oxNow⟩ : House)).map fun r => .tup [.agg (VG r.1), .b r.2] := by
 rcases H1, H2, H3, H4, H5, H6, H7, H8 with ⟨⟨rfl⟩, ⟨rfl⟩, ⟨rfl⟩, ⟨rfl⟩, ⟨rfl⟩, ⟨rfl⟩, ⟨rfl⟩, ⟨rfl⟩⟩
 rw [Qpr]
 simp -dsimp +contextual (maxSteps := 100000000) only [↓evA, eZ, Nat.reduceAdd, Nat.reduceMul, Nat.reduceBEq, Nat.reduceLeDiff, Nat.reduceLT, Tryz.func100, Tryz.f100, QFf, Qvt, QaD, Qaj, Vh]
 try simp only [Qa0, eY]
 all_goals rfl
theorem Qlm (i w a2) {R1 a} [H1 : EncR QD R1 a] : CP T (n + 13) 29 [.agg R1, .i .i64 i, .i .i64 w, .i .i64 a2] = (QbH a i w a2).map fun r => .tup [.agg (VG r.1), .b r.2] := by
 obtain ⟨rfl⟩ := H1
 rw [Qc]
 simp -dsimp +contextual (maxSteps := 100000000) only [↓evA, eZ, Nat.reduceAdd, Nat.reduceMul, Nat.reduceBEq, Nat.reduceLeDiff, Nat.reduceLT, Tryz.func29, Tryz.f29, a29, n29, srt, Vh, Qmn, Qaj, Zt, Qao, QBx, Qjm]
 try simp only [QbH, eY]
 try simp only [List.contains_nil, Bool.not_false, Bool.and_true, VC, List.length_append, List.length_cons, List.length_nil, Nat.zero_add, Vz, VK]
 all_goals rfl
theorem QiG (c a) {R1 l} [H1 : EncL Q9 R1 l] : CP T (n + 6) 243 [.imm 2 R1, .i .i64 c, .i .i64 a] = (Qaf l c a).map fun r => .i .i64 r := by
 obtain ⟨rfl⟩ := H1
 rw [Qc]
 simp -dsimp +contextual only [↓evA, eZ, Nat.reduceAdd, Nat.reduceMul, Nat.reduceBEq, Nat.reduceLeDiff, Nat.reduceLT, Tryz.func243, Tryz.f243, QRq, QDx, Qeu, QV, QlZ]
 try simp only [Qaf, eY]
 all_goals rfl
theorem Qig {R1 l R2 a} [H1 : EncL Q9 R1 l] [H2 : EncR QJ R2 a] : CP T (n + 7) 194 [.imm 2 R1, .agg R2] = (ZK l a).map fun r => .i .i64 r := by
 rcases H1, H2 with ⟨⟨rfl⟩, ⟨rfl⟩⟩
 rw [Qc]
 simp -dsimp +contextual only [↓evA, eZ, Nat.reduceAdd, Nat.reduceMul, Nat.reduceBEq, Nat.reduceLeDiff, Nat.reduceLT, Tryz.func194, Tryz.f194, QS6, QBB, Qdq, QiG]
 try simp only [ZK, eY]
 all_goals rfl
theorem QiS (q a2 a3) {R1 a} [H1 : EncL Q9 R1 a] : LP T (n + 1) 195 2 (frm [(1, .i .i64 q), (7, .imm 2 R1), (8, .i .i64 a2), (9, .i .i64 a3)]) [] =
  VU (run (J5 q a a2) a3) (fun (zr : Int) => (XE.ret, frm [(4, .i .i64 zr)], [])) (fun (zr : Unit) => (XE.exit 0, frm [], [])) := by
 obtain ⟨rfl⟩ := H1
 rw [Qm]
 simp -dsimp only [↓evA, evB, Qf, Tryz.func195, Tryz.f195, QKN, Qzv, TP, TZ, Nat.reduceAdd, Nat.reduceMul, Nat.reduceBEq, Nat.reduceLeDiff, Nat.reduceLT]
 apply Ql a3
 intro a3
 simp -dsimp +contextual only [↓evA, eZ, Nat.reduceAdd, Nat.reduceMul, Nat.reduceBEq, Nat.reduceLeDiff, Nat.reduceLT]
 try simp only [J5, eY]
 all_goals rfl
theorem QmD (q) {R1 l} [H1 : EncL Q9 R1 l] : CP T (n + 2) 195 [.imm 2 R1, .i .i64 q] = (QcB l q).map fun r => .i .i64 r := by
 obtain ⟨rfl⟩ := H1
 rw [Qc]
 simp -dsimp +contextual only [↓evA, eZ, Nat.reduceAdd, Nat.reduceMul, Nat.reduceBEq, Nat.reduceLeDiff, Nat.reduceLT, Tryz.func195, Tryz.f195, QKN, Qzv, QiS]
 try simp only [QcB, eY]
 all_goals rfl
theorem Qj4 (a2) {R1 l R2 a} [H1 : EncL Q9 R1 l] [H2 : EncR QJ R2 a] : CP T (n + 8) 108 [.imm 2 R1, .agg R2, .i .i64 a2] = (QaY l a a2).map fun r => .tup [.agg (QJ r.1), .b r.2] := by
 rcases H1, H2 with ⟨⟨rfl⟩, ⟨rfl⟩⟩
 rw [Qc]
 simp -dsimp +contextual only [↓evA, eZ, Nat.reduceAdd, Nat.reduceMul, Nat.reduceBEq, Nat.reduceLeDiff, Nat.reduceLT, Tryz.func108, Tryz.f108, QS0, QDa, Qig, QmD]
 try simp only [QaY, eY]
 all_goals rfl
theorem Qgr (i s) {R1 l} [H1 : EncL Qg R1 l] : CP T (n + 5) 110 [.imm 5 R1, .i .i64 i, .i .i64 s] = (XX l i s).map fun r => .tup [.own 5 (r.1.map Qg), .b r.2] := by
 obtain ⟨rfl⟩ := H1
 rw [Qc]
 simp -dsimp +contextual only [↓evA, eZ, Nat.reduceAdd, Nat.reduceMul, Nat.reduceBEq, Nat.reduceLeDiff, Nat.reduceLT, Tryz.func110, Tryz.f110, QTl, QCc, QbI, Qao, QdU]
 try simp only [XX, eY]
 all_goals first | rfl | (simp +contextual only [evN] <;> rfl)
theorem QjX (a2 a3) {R1 a} [H1 : EncR QD R1 a] : CP T (n + 13) 27 [.agg R1, .i .i64 a2, .i .i64 a3] = (QaQ a a2 a3).map fun r => .tup [.agg (VG r.1), .b r.2] := by
 obtain ⟨rfl⟩ := H1
 rw [Qc]
 simp -dsimp +contextual (maxSteps := 100000000) only [↓evA, eZ, Nat.reduceAdd, Nat.reduceMul, Nat.reduceBEq, Nat.reduceLeDiff, Nat.reduceLT, Tryz.func27, Tryz.f27, a27, n27, srt, Vh, Qao, Qaj, Qhe, Qj4, Qdq, Qgr, Qab]
 try simp only [QaQ, eY]
 all_goals rfl
theorem QfC (a2) {R1 a} [H1 : EncR QD R1 a] : CP T (n + 12) 122 [.agg R1, .i .i64 a2] = (Qaw a a2).map fun r => .tup [.agg (Qv r.1), .b r.2] := by
 obtain ⟨rfl⟩ := H1
 rw [Qc]
 simp -dsimp +contextual (maxSteps := 100000000) only [↓evA, eZ, Nat.reduceAdd, Nat.reduceMul, Nat.reduceBEq, Nat.reduceLeDiff, Nat.reduceLT, Tryz.func122, Tryz.f122, QSr, QDL, Qaa, Qaj, Zt]
 try simp only [Qaw, eY]
 all_goals rfl
theorem QgK (a f a3 a4) {R1 b R2 a2} [H1 : EncR Qg R1 b] [H2 : EncL Qg R2 a2] : LP T (n + 1) 123 4 (frm [(1, .i .i64 a), (5, .ptr 0 0 0), (6, .b f), (10, .imm 5 R2), (11, .i .i64 a3), (12, .i .i64 a4)]) [some (Ent.box R1)] =
  (run (Vb a a2 a3) (b, f, a4)).map (fun (zr : Claim) => (XE.exit 0, frm [(5, .ptr 0 0 0)], [some (Ent.box (Qg zr))])) := by
 rcases H1, H2 with ⟨⟨rfl⟩, ⟨rfl⟩⟩
 rw [Qm]
 simp -dsimp only [↓evA, evB, Qf, Tryz.func123, Tryz.f123, QOK, Qxl, TP, TZ, Nat.reduceAdd, Nat.reduceMul, Nat.reduceBEq, Nat.reduceLeDiff, Nat.reduceLT]
 apply Za b f a4
 intro b f a4
 simp -dsimp +contextual only [↓evA, eZ, Nat.reduceAdd, Nat.reduceMul, Nat.reduceBEq, Nat.reduceLeDiff, Nat.reduceLT]
 try simp only [Vb, eY]
 all_goals rfl
theorem QeZ (a) {R1 l} [H1 : EncL Qg R1 l] : CP T (n + 2) 123 [.imm 5 R1, .i .i64 a] = (J4 l a).map fun r => .i .i64 r := by
 obtain ⟨rfl⟩ := H1
 rw [Qc]
 simp -dsimp +contextual only [↓evA, eZ, Nat.reduceAdd, Nat.reduceMul, Nat.reduceBEq, Nat.reduceLeDiff, Nat.reduceLT, Tryz.func123, Tryz.f123, QOK, Qxl, QgK]
 try simp only [J4, eY]
 all_goals rfl
theorem QnP (a) {R1 l} [H1 : EncL QP R1 l] : CP T (n + 8) 211 [.imm 3 R1, .i .i64 a] = (Qdo l a).map fun r => .tup [.own 3 (r.1.map QP), .b r.2] := by
 obtain ⟨rfl⟩ := H1
 rw [Qc]
 simp -dsimp +contextual only [↓evA, eZ, Nat.reduceAdd, Nat.reduceMul, Nat.reduceBEq, Nat.reduceLeDiff, Nat.reduceLT, Tryz.func211, Tryz.f211, QPU, QAp, Qcj, Zt, Qet]
 try simp only [Qdo, eY]
 all_goals first | rfl | (simp +contextual only [evN] <;> rfl)
theorem Qfv (a2 a3 w) {R1 a} [H1 : EncR QD R1 a] : CP T (n + 10) 124 [.agg R1, .i .i64 a2, .i .i64 a3, .i .i64 w] = (ZO a a2 a3 w).map fun r => .tup [.agg (VG r.1), .b r.2] := by
 obtain ⟨rfl⟩ := H1
 rw [Qc]
 simp -dsimp +contextual (maxSteps := 100000000) only [↓evA, eZ, Nat.reduceAdd, Nat.reduceMul, Nat.reduceBEq, Nat.reduceLeDiff, Nat.reduceLT, Tryz.func124, Tryz.f124, QRj, QDu, Vh, QnP, QgT]
 try simp only [ZO, eY]
 all_goals rfl
theorem Qpq (d) {R1 a} [H1 : EncR ZR R1 a] : CP T (n + 3) 125 [.agg R1, .i .i64 d] = (Qer a d).map fun r => .i .i64 r := by
 obtain ⟨rfl⟩ := H1
 rw [Qc]
 simp -dsimp +contextual only [↓evA, eZ, Nat.reduceAdd, Nat.reduceMul, Nat.reduceBEq, Nat.reduceLeDiff, Nat.reduceLT, Tryz.func125, Tryz.f125, QS9, QAn, QeU, QV]
 try simp only [Qer, eY]
 all_goals rfl
theorem Qgp {R1 l R2 a} [H1 : EncL QX R1 l] [H2 : EncR QX R2 a] : CP T (n + 4) 126 [.imm 4 R1, .agg R2] = (JK l a).map fun r => .tup [.own 4 (r.1.map QX), .b r.2] := by
 rcases H1, H2 with ⟨⟨rfl⟩, ⟨rfl⟩⟩
 rw [Qc]
 simp -dsimp +contextual only [↓evA, eZ, Nat.reduceAdd, Nat.reduceMul, Nat.reduceBEq, Nat.reduceLeDiff, Nat.reduceLT, Tryz.func126, Tryz.f126, QQD, QDf, Qef, Qe8]
 try simp only [JK, eY]
 try simp only [List.contains_nil, Bool.not_false, Bool.and_true, VC, List.length_append, List.length_cons, List.length_nil, Nat.zero_add, Vz, VK]
 all_goals first | rfl | (simp +contextual only [evN] <;> rfl)
theorem QlE (a2) {R1 a} [H1 : EncR QD R1 a] : CP T (n + 13) 31 [.agg R1, .i .i64 a2] = (QbG a a2).map fun r => .tup [.agg (VG r.1), .b r.2] := by
 obtain ⟨rfl⟩ := H1
 rw [Qc]
 simp -dsimp +contextual (maxSteps := 100000000) only [↓evA, eZ, Nat.reduceAdd, Nat.reduceMul, Nat.reduceBEq, Nat.reduceLeDiff, Nat.reduceLT, Tryz.func31, Tryz.f31, a31, n31, srt, QfC, QeZ, Vh, Qao, Qfv, Qgr, Qpq, Qgp, Qab]
 try simp only [QbG, eY]
 all_goals rfl
theorem Qqo {R1 a} [H1 : EncR Vu R1 a] : CP T (n + 2) 257 [.agg R1] = (QeO a).map fun r => .b r := by
 obtain ⟨rfl⟩ := H1
 rw [Qc]
 simp -dsimp +contextual only [↓evA, eZ, Nat.reduceAdd, Nat.reduceMul, Nat.reduceBEq, Nat.reduceLeDiff, Nat.reduceLT, Tryz.func257, Tryz.f257, QSE, QDo, QV]
 try simp only [QeO, eY]
 all_goals rfl
theorem QlF {R1 a R2 c} [H1 : EncR Vu R1 a] [H2 : EncR Vu R2 c] : CP T (n + 1) 259 [.agg R1, .iptr 3 [R2] 0 0] = (Qde a c).map fun r => .b r := by
 rcases H1, H2 with ⟨⟨rfl⟩, ⟨rfl⟩⟩
 rw [Qc]
 simp -dsimp +contextual only [↓evA, eZ, Nat.reduceAdd, Nat.reduceMul, Nat.reduceBEq, Nat.reduceLeDiff, Nat.reduceLT, Tryz.func259, Tryz.f259, QSY, QDs]
 try simp only [Qde, eY]
 all_goals rfl
theorem QaM (a a2) {R1 s R2 f} [H1 : EncL Vu R1 s] [H2 : EncR Vu R2 f] : LP T (n + 2) 275 2 (frm [(0, .imm 3 R1), (1, .clo 259 [.iptr 3 [R2] 0 0]), (7, .i .i64 a), (8, .i .i64 a2)]) [] =
  VU (run (QF s f a) a2) (fun (zr : Int) => (XE.ret, frm [(4, .i .i64 zr)], [])) (fun (zr : Unit) => (XE.exit 0, frm [], [])) := by
 rcases H1, H2 with ⟨⟨rfl⟩, ⟨rfl⟩⟩
 rw [Qm]
 simp -dsimp only [↓evA, evB, Qf, Tryz.func275, Tryz.f275, QO2, QxD, TP, TZ, Nat.reduceAdd, Nat.reduceMul, Nat.reduceBEq, Nat.reduceLeDiff, Nat.reduceLT]
 apply Ql a2
 intro a2
 simp -dsimp +contextual only [↓evA, eZ, Nat.reduceAdd, Nat.reduceMul, Nat.reduceBEq, Nat.reduceLeDiff, Nat.reduceLT, QlF]
 try simp only [QF, eY]
 all_goals rfl
theorem QbF {R1 s R2 c} [H1 : EncL Vu R1 s] [H2 : EncR Vu R2 c] : CP T (n + 3) 275 [.imm 3 R1, .clo 259 [.iptr 3 [R2] 0 0]] = (Vx s c).map fun r => .i .i64 r := by
 rcases H1, H2 with ⟨⟨rfl⟩, ⟨rfl⟩⟩
 rw [Qc]
 simp -dsimp +contextual only [↓evA, eZ, Nat.reduceAdd, Nat.reduceMul, Nat.reduceBEq, Nat.reduceLeDiff, Nat.reduceLT, Tryz.func275, Tryz.f275, QO2, QxD, QaM]
 try simp only [Vx, eY]
 all_goals rfl
theorem QaX {R1 s R2 c} [H1 : EncL Vu R1 s] [H2 : EncR Vu R2 c] : CP T (n + 4) 258 [.imm 3 R1, .clo 259 [.iptr 3 [R2] 0 0]] = (Q0 s c).map fun r => .b r := by
 rcases H1, H2 with ⟨⟨rfl⟩, ⟨rfl⟩⟩
 rw [Qc]
 simp -dsimp +contextual only [↓evA, eZ, Nat.reduceAdd, Nat.reduceMul, Nat.reduceBEq, Nat.reduceLeDiff, Nat.reduceLT, Tryz.func258, Tryz.f258, QRG, QAd, QbF]
 try simp only [Q0, eY]
 all_goals rfl
theorem Qjr (a2 a3) {R1 l R2 a} [H1 : EncL Vu R1 l] [H2 : EncL Vu R2 a] : LP T (n + 5) 225 4 (frm [(0, .imm 3 R1), (8, .imm 3 R2), (9, .i .i64 a2), (10, .i .i64 a3)]) [] =
  VU (run (Zw l a a2) a3) (fun (zr : Bool) => (XE.ret, frm [(2, .b zr)], [])) (fun (zr : Unit) => (XE.exit 0, frm [], [])) := by
 rcases H1, H2 with ⟨⟨rfl⟩, ⟨rfl⟩⟩
 rw [Qm]
 simp -dsimp only [↓evA, evB, Qf, Tryz.func225, Tryz.f225, QHD, Qxp, TP, TZ, Nat.reduceAdd, Nat.reduceMul, Nat.reduceBEq, Nat.reduceLeDiff, Nat.reduceLT]
 apply Ql a3
 intro a3
 simp -dsimp +contextual only [↓evA, eZ, Nat.reduceAdd, Nat.reduceMul, Nat.reduceBEq, Nat.reduceLeDiff, Nat.reduceLT, Qqo, QaX]
 try simp only [Zw, eY]
 all_goals rfl
theorem Qnd {R1 l} [H1 : EncL Vu R1 l] : CP T (n + 6) 225 [.imm 3 R1] = (QeH l).map fun r => .b r := by
 obtain ⟨rfl⟩ := H1
 rw [Qc]
 simp -dsimp +contextual only [↓evA, eZ, Nat.reduceAdd, Nat.reduceMul, Nat.reduceBEq, Nat.reduceLeDiff, Nat.reduceLT, Tryz.func225, Tryz.f225, QHD, Qxp, Qjr]
 try simp only [QeH, eY]
 all_goals rfl
theorem Qi0 {R1 s} [H1 : EncL Vu R1 s] : CP T (n + 1) 260 [.imm 3 R1] = (Qca s).map fun r => .own 3 (r.map Vu) := by
 obtain ⟨rfl⟩ := H1
 rw [Qc]
 simp -dsimp +contextual only [↓evA, eZ, Nat.reduceAdd, Nat.reduceMul, Nat.reduceBEq, Nat.reduceLeDiff, Nat.reduceLT, Tryz.func260, Tryz.f260, QQO, QCs]
 try simp only [Qca, eY]
 all_goals first | rfl | (simp +contextual only [evN] <;> rfl)
theorem QmF (a) : CP T (n + 1) 277 [.i .i64 a] = (Qcu a).map fun r => .b r := by
 rw [Qc]
 simp -dsimp +contextual only [↓evA, eZ, Nat.reduceAdd, Nat.reduceMul, Nat.reduceBEq, Nat.reduceLeDiff, Nat.reduceLT, Tryz.func277, Tryz.f277, QTd, QBj]
 try simp only [Qcu, eY]
 all_goals rfl
theorem Qkf (a a2) : CP T (n + 2) 263 [.i .i64 a, .i .i64 a2] = (QcO a a2).map fun r => .i .i64 r := by
 rw [Qc]
 simp -dsimp +contextual only [↓evA, eZ, Nat.reduceAdd, Nat.reduceMul, Nat.reduceBEq, Nat.reduceLeDiff, Nat.reduceLT, Tryz.func263, Tryz.f263, QQV, QDP, QmF]
 try simp only [QcO, eY]
 all_goals rfl
theorem Qim {R1 a R2 b} [H1 : EncR Vu R1 a] [H2 : EncR Vu R2 b] : CP T (n + 3) 262 [.agg R1, .agg R2] = (ZF a b).map fun r => .i .i64 r := by
 rcases H1, H2 with ⟨⟨rfl⟩, ⟨rfl⟩⟩
 rw [Qc]
 simp -dsimp +contextual only [↓evA, eZ, Nat.reduceAdd, Nat.reduceMul, Nat.reduceBEq, Nat.reduceLeDiff, Nat.reduceLT, Tryz.func262, Tryz.f262, QUP, QBq, Qkf]
 try simp only [ZF, eY]
 all_goals rfl
theorem X3 (a b i j) {R1 d} [H1 : EncL Vu R1 d] : LP T (n + 4) 284 4 (frm [(0, .sl 0), (1, .i .i64 a), (2, .i .i64 b), (3, .clo 262 []), (8, .i .i64 i), (9, .i .i64 j)]) [some (Ent.lst 3 R1)] =
  (run (Qr a b i) (d, j)).map (fun (zr : (List Bid)) => (XE.exit 2, frm [(0, .sl 0), (1, .i .i64 a), (2, .i .i64 b), (3, .clo 262 []), (8, .i .i64 i)], [some (Ent.lst 3 (zr.map Vu))])) := by
 obtain ⟨rfl⟩ := H1
 rw [Qm]
 simp -dsimp only [↓evA, evB, Qf, Tryz.func284, Tryz.f284, QGE, QvA, TP, TZ, Nat.reduceAdd, Nat.reduceMul, Nat.reduceBEq, Nat.reduceLeDiff, Nat.reduceLT]
 apply QH d j
 intro d j
 simp -dsimp +contextual only [↓evA, eZ, Nat.reduceAdd, Nat.reduceMul, Nat.reduceBEq, Nat.reduceLeDiff, Nat.reduceLT, Qim]
 try simp only [Qr, eY]
 all_goals rfl
theorem X4 (a b i) {R1 d} [H1 : EncL Vu R1 d] : LP T (n + 5) 284 1 (frm [(0, .sl 0), (1, .i .i64 a), (2, .i .i64 b), (3, .clo 262 []), (8, .i .i64 i)]) [some (Ent.lst 3 R1)] =
  (run (Qj a b) (d, i)).map (fun (zr : (List Bid)) => (XE.exit 0, frm [(0, .sl 0)], [some (Ent.lst 3 (zr.map Vu))])) := by
 obtain ⟨rfl⟩ := H1
 rw [Qm]
 simp -dsimp only [↓evA, evB, Qf, Tryz.func284, Tryz.f284, QGE, QvA, TP, TZ, Nat.reduceAdd, Nat.reduceMul, Nat.reduceBEq, Nat.reduceLeDiff, Nat.reduceLT]
 apply QH d i
 intro d i
 simp -dsimp +contextual only [↓evA, eZ, Nat.reduceAdd, Nat.reduceMul, Nat.reduceBEq, Nat.reduceLeDiff, Nat.reduceLT, X3]
 try simp only [Qj, eY]
 all_goals rfl
theorem VJ (a b) {R1 d} [H1 : EncL Vu R1 d] : CA T (n + 6) 284 [some (Ent.lst 3 R1)] [.sl 0, .i .i64 a, .i .i64 b, .clo 262 []] = (Qh d a b).map fun r => (.tup [], [some (Ent.lst 3 (r.map Vu))]) := by
 obtain ⟨rfl⟩ := H1
 rw [Qfd]
 simp -dsimp +contextual only [↓evA, eZ, Nat.reduceAdd, Nat.reduceMul, Nat.reduceBEq, Nat.reduceLeDiff, Nat.reduceLT, Tryz.func284, Tryz.f284, QGE, QvA, X4]
 try simp only [Qh, eY]
 all_goals rfl
theorem Ze (a b a2 b2) {R1 d} [H1 : EncL Vu R1 d] : LP T (n + 7) 276 2 (frm [(0, .sl 0), (1, .i .i64 a), (2, .clo 262 []), (6, .i .i64 b), (7, .i .i64 a2), (8, .i .i64 b2)]) [some (Ent.lst 3 R1)] =
  (run (Qk a b) (d, a2, b2)).map (fun (zr : (List Bid) × Int) => (XE.exit 0, frm [(0, .sl 0), (1, .i .i64 a), (2, .clo 262 []), (6, .i .i64 b), (7, .i .i64 zr.2)], [some (Ent.lst 3 (zr.1.map Vu))])) := by
 obtain ⟨rfl⟩ := H1
 rw [Qm]
 simp -dsimp only [↓evA, evB, Qf, Tryz.func276, Tryz.f276, QAU, Qtf, TP, TZ, Nat.reduceAdd, Nat.reduceMul, Nat.reduceBEq, Nat.reduceLeDiff, Nat.reduceLT]
 apply Za d a2 b2
 intro d a2 b2
 simp -dsimp +contextual only [↓evA, eZ, Nat.reduceAdd, Nat.reduceMul, Nat.reduceBEq, Nat.reduceLeDiff, Nat.reduceLT, srt, VJ]
 try simp only [Qk, eY]
 all_goals rfl
theorem Zd (a b a2 b2) {R1 d} [H1 : EncL Vu R1 d] : LP T (n + 2) 276 9 (frm [(0, .sl 0), (1, .i .i64 a), (2, .clo 262 []), (6, .i .i64 b), (7, .i .i64 a2), (8, .i .i64 b2)]) [some (Ent.lst 3 R1)] =
  (run (Vs d a b a2 b2) ()).map (fun (zr : Unit) => (XE.exit 4, frm [(0, .sl 0), (1, .i .i64 a), (2, .clo 262 []), (6, .i .i64 b), (7, .i .i64 a2)], [some (Ent.lst 3 (d.map Vu))])) := by
 obtain ⟨rfl⟩ := H1
 rw [Qm]
 simp -dsimp only [↓evA, evB, Qf, Tryz.func276, Tryz.f276, QAU, Qtf, TP, TZ, Nat.reduceAdd, Nat.reduceMul, Nat.reduceBEq, Nat.reduceLeDiff, Nat.reduceLT]
 apply QwW
 simp -dsimp +contextual only [↓evA, eZ, Nat.reduceAdd, Nat.reduceMul, Nat.reduceBEq, Nat.reduceLeDiff, Nat.reduceLT, srt]
 try simp only [Vs, eY]
 all_goals rfl
theorem Zf (a b) {R1 d} [H1 : EncL Vu R1 d] : LP T (n + 3) 276 7 (frm [(0, .sl 0), (1, .i .i64 a), (2, .clo 262 []), (6, .i .i64 b)]) [some (Ent.lst 3 R1)] =
  (run (QE d a) b).map (fun (zr : Unit) => (XE.exit 2, frm [(0, .sl 0)], [some (Ent.lst 3 (d.map Vu))])) := by
 obtain ⟨rfl⟩ := H1
 rw [Qm]
 simp -dsimp only [↓evA, evB, Qf, Tryz.func276, Tryz.f276, QAU, Qtf, TP, TZ, Nat.reduceAdd, Nat.reduceMul, Nat.reduceBEq, Nat.reduceLeDiff, Nat.reduceLT]
 apply Ql b
 intro b
 simp -dsimp +contextual only [↓evA, eZ, Nat.reduceAdd, Nat.reduceMul, Nat.reduceBEq, Nat.reduceLeDiff, Nat.reduceLT, srt, Zd]
 try simp only [QE, eY]
 all_goals rfl
theorem ZY (a) {R1 d} [H1 : EncL Vu R1 d] : CA T (n + 8) 276 [some (Ent.lst 3 R1)] [.sl 0, .i .i64 a, .clo 262 []] = (Q7 d a).map fun r => (.tup [], [some (Ent.lst 3 (r.map Vu))]) := by
 obtain ⟨rfl⟩ := H1
 rw [Qfd]
 simp -dsimp +contextual only [↓evA, eZ, Nat.reduceAdd, Nat.reduceMul, Nat.reduceBEq, Nat.reduceLeDiff, Nat.reduceLT, Tryz.func276, Tryz.f276, QAU, Qtf, srt, VJ, Ze, Zf]
 try simp only [Q7, eY]
 all_goals rfl
theorem ZT {R1 a} [H1 : EncL Vu R1 a] : CA T (n + 9) 261 [some (Ent.lst 3 R1)] [.sl 0, .clo 262 []] = (Q4 a).map fun r => (.tup [], [some (Ent.lst 3 (r.map Vu))]) := by
 obtain ⟨rfl⟩ := H1
 rw [Qfd]
 simp -dsimp +contextual only [↓evA, eZ, Nat.reduceAdd, Nat.reduceMul, Nat.reduceBEq, Nat.reduceLeDiff, Nat.reduceLT, Tryz.func261, Tryz.f261, QQE, QCK, srt, ZY]
 try simp only [Q4, eY]
 all_goals rfl
theorem QkK {R1 l} [H1 : EncL Vu R1 l] : CP T (n + 10) 226 [.imm 3 R1] = (QaV l).map fun r => .own 3 (r.map Vu) := by
 obtain ⟨rfl⟩ := H1
 rw [Qc]
 simp -dsimp +contextual only [↓evA, eZ, Nat.reduceAdd, Nat.reduceMul, Nat.reduceBEq, Nat.reduceLeDiff, Nat.reduceLT, Tryz.func226, Tryz.f226, QUm, QAF, srt, Qi0, ZT]
 try simp only [QaV, eY]
 all_goals first | rfl | (simp +contextual only [evN] <;> rfl)
theorem Qpi {R1 l} [H1 : EncL Vu R1 l] : CP T (n + 11) 143 [.imm 3 R1] = (Qen l).map fun r => .tup [.i .i64 r.1, .i .i64 r.2] := by
 obtain ⟨rfl⟩ := H1
 rw [Qc]
 simp -dsimp +contextual only [↓evA, eZ, Nat.reduceAdd, Nat.reduceMul, Nat.reduceBEq, Nat.reduceLeDiff, Nat.reduceLT, Tryz.func143, Tryz.f143, QSS, QAC, Qnd, QkK]
 try simp only [Qen, eY]
 all_goals rfl
end Go.Proofs.YtcdffihcfeajfaaGreat
