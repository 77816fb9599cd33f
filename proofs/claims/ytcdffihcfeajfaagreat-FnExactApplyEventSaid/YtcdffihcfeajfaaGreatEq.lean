import Derived.Test.YtcdffihcfeajfaaGreatEq5
namespace Go.Proofs.YtcdffihcfeajfaaGreat
open Go Go.Proofs Go.Proofs.YtcdffihcfeajfaaGreat.Am
set_option maxHeartbeats 4000000
set_option linter.unusedVariables false
set_option linter.unusedSimpArgs false
set_option linter.defProp false
set_option maxRecDepth 100000
variable (n : Nat)
theorem Qik (k i) {R1 a} [H1 : EncL Q9 R1 a] : LP T (n + 1) 170 2 (frm [(0, .imm 2 R1), (1, .i .i64 k), (5, .i .i64 i)]) [] =
  VU (run (Jj a) (k, i)) (fun (zr : Int) => (XE.ret, frm [(4, .i .i64 zr)], [])) (fun (zr : Int) => (XE.exit 0, frm [(1, .i .i64 zr)], [])) := by
 obtain ⟨rfl⟩ := H1
 rw [Qm]
 simp -dsimp only [↓evA, evB, Qf, Tryz.func170, Tryz.f170, QIr, Qx0, TP, TZ, Nat.reduceAdd, Nat.reduceMul, Nat.reduceBEq, Nat.reduceLeDiff, Nat.reduceLT]
 apply QH k i
 intro k i
 simp -dsimp +contextual only [↓evA, eZ, Nat.reduceAdd, Nat.reduceMul, Nat.reduceBEq, Nat.reduceLeDiff, Nat.reduceLT]
 try simp only [Jj, eY]
 all_goals rfl
theorem Qlq (k) {R1 a} [H1 : EncL Q9 R1 a] : CP T (n + 2) 170 [.imm 2 R1, .i .i64 k] = (QbA a k).map fun r => .i .i64 r := by
 obtain ⟨rfl⟩ := H1
 rw [Qc]
 simp -dsimp +contextual only [↓evA, eZ, Nat.reduceAdd, Nat.reduceMul, Nat.reduceBEq, Nat.reduceLeDiff, Nat.reduceLT, Tryz.func170, Tryz.f170, QIr, Qx0, Qik]
 try simp only [QbA, eY]
 all_goals rfl
theorem QgL (k i) {R1 a} [H1 : EncL QC R1 a] : LP T (n + 3) 79 2 (frm [(0, .imm 3 R1), (1, .i .i64 k), (5, .i .i64 i)]) [] =
  VU (run (Xs a) (k, i)) (fun (zr : Int) => (XE.ret, frm [(4, .i .i64 zr)], [])) (fun (zr : Int) => (XE.exit 0, frm [(1, .i .i64 zr)], [])) := by
 obtain ⟨rfl⟩ := H1
 rw [Qm]
 simp -dsimp only [↓evA, evB, Qf, Tryz.func79, Tryz.f79, a79, n79, TP, TZ, Nat.reduceAdd, Nat.reduceMul, Nat.reduceBEq, Nat.reduceLeDiff, Nat.reduceLT]
 apply QH k i
 intro k i
 simp -dsimp +contextual only [↓evA, eZ, Nat.reduceAdd, Nat.reduceMul, Nat.reduceBEq, Nat.reduceLeDiff, Nat.reduceLT, Qlq]
 try simp only [Xs, eY]
 all_goals rfl
theorem Qi4 (k) {R1 a} [H1 : EncL QC R1 a] : CP T (n + 4) 79 [.imm 3 R1, .i .i64 k] = (Qad a k).map fun r => .i .i64 r := by
 obtain ⟨rfl⟩ := H1
 rw [Qc]
 simp -dsimp +contextual only [↓evA, eZ, Nat.reduceAdd, Nat.reduceMul, Nat.reduceBEq, Nat.reduceLeDiff, Nat.reduceLT, Tryz.func79, Tryz.f79, a79, n79, QgL]
 try simp only [Qad, eY]
 all_goals rfl
theorem Qii (k i) {R1 a} [H1 : EncL QP R1 a] : LP T (n + 1) 80 2 (frm [(0, .imm 3 R1), (1, .i .i64 k), (5, .i .i64 i)]) [] =
  VU (run (Jc a) (k, i)) (fun (zr : Int) => (XE.ret, frm [(4, .i .i64 zr)], [])) (fun (zr : Int) => (XE.exit 0, frm [(1, .i .i64 zr)], [])) := by
 obtain ⟨rfl⟩ := H1
 rw [Qm]
 simp -dsimp only [↓evA, evB, Qf, Tryz.func80, Tryz.f80, a80, n80, TP, TZ, Nat.reduceAdd, Nat.reduceMul, Nat.reduceBEq, Nat.reduceLeDiff, Nat.reduceLT]
 apply QH k i
 intro k i
 simp -dsimp +contextual only [↓evA, eZ, Nat.reduceAdd, Nat.reduceMul, Nat.reduceBEq, Nat.reduceLeDiff, Nat.reduceLT]
 try simp only [Jc, eY]
 all_goals rfl
theorem QkO (k) {R1 a} [H1 : EncL QP R1 a] : CP T (n + 2) 80 [.imm 3 R1, .i .i64 k] = (QbP a k).map fun r => .i .i64 r := by
 obtain ⟨rfl⟩ := H1
 rw [Qc]
 simp -dsimp +contextual only [↓evA, eZ, Nat.reduceAdd, Nat.reduceMul, Nat.reduceBEq, Nat.reduceLeDiff, Nat.reduceLT, Tryz.func80, Tryz.f80, a80, n80, Qii]
 try simp only [QbP, eY]
 all_goals rfl
theorem QgS (k i) {R1 a} [H1 : EncL Qg R1 a] : LP T (n + 1) 81 2 (frm [(0, .imm 5 R1), (1, .i .i64 k), (5, .i .i64 i)]) [] =
  VU (run (XH a) (k, i)) (fun (zr : Int) => (XE.ret, frm [(4, .i .i64 zr)], [])) (fun (zr : Int) => (XE.exit 0, frm [(1, .i .i64 zr)], [])) := by
 obtain ⟨rfl⟩ := H1
 rw [Qm]
 simp -dsimp only [↓evA, evB, Qf, Tryz.func81, Tryz.f81, a81, n81, TP, TZ, Nat.reduceAdd, Nat.reduceMul, Nat.reduceBEq, Nat.reduceLeDiff, Nat.reduceLT]
 apply QH k i
 intro k i
 simp -dsimp +contextual only [↓evA, eZ, Nat.reduceAdd, Nat.reduceMul, Nat.reduceBEq, Nat.reduceLeDiff, Nat.reduceLT]
 try simp only [XH, eY]
 all_goals rfl
theorem Qkr (k) {R1 a} [H1 : EncL Qg R1 a] : CP T (n + 2) 81 [.imm 5 R1, .i .i64 k] = (QaR a k).map fun r => .i .i64 r := by
 obtain ⟨rfl⟩ := H1
 rw [Qc]
 simp -dsimp +contextual only [↓evA, eZ, Nat.reduceAdd, Nat.reduceMul, Nat.reduceBEq, Nat.reduceLeDiff, Nat.reduceLT, Tryz.func81, Tryz.f81, a81, n81, QgS]
 try simp only [QaR, eY]
 all_goals rfl
theorem Qhr (k i) {R1 a} [H1 : EncL QJ R1 a] : LP T (n + 1) 82 2 (frm [(0, .imm 4 R1), (1, .i .i64 k), (5, .i .i64 i)]) [] =
  VU (run (XC a) (k, i)) (fun (zr : Int) => (XE.ret, frm [(4, .i .i64 zr)], [])) (fun (zr : Int) => (XE.exit 0, frm [(1, .i .i64 zr)], [])) := by
 obtain ⟨rfl⟩ := H1
 rw [Qm]
 simp -dsimp only [↓evA, evB, Qf, Tryz.func82, Tryz.f82, a82, n82, TP, TZ, Nat.reduceAdd, Nat.reduceMul, Nat.reduceBEq, Nat.reduceLeDiff, Nat.reduceLT]
 apply QH k i
 intro k i
 simp -dsimp +contextual only [↓evA, eZ, Nat.reduceAdd, Nat.reduceMul, Nat.reduceBEq, Nat.reduceLeDiff, Nat.reduceLT]
 try simp only [XC, eY]
 all_goals rfl
theorem Qj5 (k) {R1 a} [H1 : EncL QJ R1 a] : CP T (n + 2) 82 [.imm 4 R1, .i .i64 k] = (Qa4 a k).map fun r => .i .i64 r := by
 obtain ⟨rfl⟩ := H1
 rw [Qc]
 simp -dsimp +contextual only [↓evA, eZ, Nat.reduceAdd, Nat.reduceMul, Nat.reduceBEq, Nat.reduceLeDiff, Nat.reduceLT, Tryz.func82, Tryz.f82, a82, n82, Qhr]
 try simp only [Qa4, eY]
 all_goals rfl
theorem QhY (k i) {R1 a} [H1 : EncL Va R1 a] : LP T (n + 1) 83 2 (frm [(0, .imm 5 R1), (1, .i .i64 k), (5, .i .i64 i)]) [] =
  VU (run (X5 a) (k, i)) (fun (zr : Int) => (XE.ret, frm [(4, .i .i64 zr)], [])) (fun (zr : Int) => (XE.exit 0, frm [(1, .i .i64 zr)], [])) := by
 obtain ⟨rfl⟩ := H1
 rw [Qm]
 simp -dsimp only [↓evA, evB, Qf, Tryz.func83, Tryz.f83, a83, n83, TP, TZ, Nat.reduceAdd, Nat.reduceMul, Nat.reduceBEq, Nat.reduceLeDiff, Nat.reduceLT]
 apply QH k i
 intro k i
 simp -dsimp +contextual only [↓evA, eZ, Nat.reduceAdd, Nat.reduceMul, Nat.reduceBEq, Nat.reduceLeDiff, Nat.reduceLT]
 try simp only [X5, eY]
 all_goals rfl
theorem QkX (k) {R1 a} [H1 : EncL Va R1 a] : CP T (n + 2) 83 [.imm 5 R1, .i .i64 k] = (Qbt a k).map fun r => .i .i64 r := by
 obtain ⟨rfl⟩ := H1
 rw [Qc]
 simp -dsimp +contextual only [↓evA, eZ, Nat.reduceAdd, Nat.reduceMul, Nat.reduceBEq, Nat.reduceLeDiff, Nat.reduceLT, Tryz.func83, Tryz.f83, a83, n83, QhY]
 try simp only [Qbt, eY]
 all_goals rfl
theorem QgQ (k i) {R1 a} [H1 : EncL QX R1 a] : LP T (n + 1) 84 2 (frm [(0, .imm 4 R1), (1, .i .i64 k), (5, .i .i64 i)]) [] =
  VU (run (XI a) (k, i)) (fun (zr : Int) => (XE.ret, frm [(4, .i .i64 zr)], [])) (fun (zr : Int) => (XE.exit 0, frm [(1, .i .i64 zr)], [])) := by
 obtain ⟨rfl⟩ := H1
 rw [Qm]
 simp -dsimp only [↓evA, evB, Qf, Tryz.func84, Tryz.f84, a84, n84, TP, TZ, Nat.reduceAdd, Nat.reduceMul, Nat.reduceBEq, Nat.reduceLeDiff, Nat.reduceLT]
 apply QH k i
 intro k i
 simp -dsimp +contextual only [↓evA, eZ, Nat.reduceAdd, Nat.reduceMul, Nat.reduceBEq, Nat.reduceLeDiff, Nat.reduceLT]
 try simp only [XI, eY]
 all_goals rfl
theorem Qkx (k) {R1 a} [H1 : EncL QX R1 a] : CP T (n + 2) 84 [.imm 4 R1, .i .i64 k] = (QaN a k).map fun r => .i .i64 r := by
 obtain ⟨rfl⟩ := H1
 rw [Qc]
 simp -dsimp +contextual only [↓evA, eZ, Nat.reduceAdd, Nat.reduceMul, Nat.reduceBEq, Nat.reduceLeDiff, Nat.reduceLT, Tryz.func84, Tryz.f84, a84, n84, QgQ]
 try simp only [QaN, eY]
 all_goals rfl
theorem Qk7 (k) {R1 a} [H1 : EncR QD R1 a] : CP T (n + 5) 21 [.agg R1, .i .i64 k] = (Zc a k).map fun r => .i .i64 r := by
 obtain ⟨rfl⟩ := H1
 rw [Qc]
 simp -dsimp +contextual (maxSteps := 100000000) only [↓evA, eZ, Nat.reduceAdd, Nat.reduceMul, Nat.reduceBEq, Nat.reduceLeDiff, Nat.reduceLT, Tryz.func21, Tryz.f21, a21, n21, Qlw, Qi4, QkO, Qkr, Qj5, QkX, Qkx]
 try simp only [Zc, eY]
 all_goals rfl
theorem Qfy {R1 a R2 a2} [H1 : EncR QD R1 a] [H2 : EncR QdZ R2 a2] : CP T (n + 15) 11 [.agg R1, .agg R2] = (JG a a2).map fun r => .b r := by
 rcases H1, H2 with ⟨⟨rfl⟩, ⟨rfl⟩⟩
 rw [Qc]
 simp -dsimp +contextual (maxSteps := 100000000) only [↓evA, eZ, Nat.reduceAdd, Nat.reduceMul, Nat.reduceBEq, Nat.reduceLeDiff, Nat.reduceLT, Tryz.func11, Tryz.f11, a11, n11, srt, QnM, Qn4, QoC, QoM, Qkt, QjR, Qol, QnF, Qk3, Qlx, Qk7]
 try simp only [JG, eY]
 try simp only [List.contains_nil, Bool.not_false, Bool.and_true, VC, List.length_append, List.length_cons, List.length_nil, Nat.zero_add, Vz, VK]
 all_goals rfl
end Go.Proofs.YtcdffihcfeajfaaGreat
