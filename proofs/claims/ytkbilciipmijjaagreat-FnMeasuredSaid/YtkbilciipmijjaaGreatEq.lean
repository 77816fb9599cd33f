import Derived.Test.YtkbilciipmijjaaGreatEq3
namespace Go.Proofs.YtkbilciipmijjaaGreat
open Go Go.Proofs Go.Proofs.YtkbilciipmijjaaGreat.Am
set_option maxHeartbeats 4000000
set_option linter.unusedVariables false
set_option linter.unusedSimpArgs false
set_option linter.defProp false
set_option maxRecDepth 100000
variable (n : Nat)
theorem QhF {R1 l R2 a} [H1 : EncL Xt R1 l] [H2 : EncR Xk R2 a] : CP T (n + 4) 138 [.imm 2 R1, .agg R2] = (Jv l a).map fun r => .i .i64 r := by
 rcases H1, H2 with ⟨⟨rfl⟩, ⟨rfl⟩⟩
 rw [Qi]
 simp -dsimp +contextual only [↓evA, eZ, Nat.reduceAdd, Nat.reduceMul, Nat.reduceBEq, Nat.reduceLeDiff, Nat.reduceLT, Tryz.func138, Tryz.f138, QGF, Qrp, Qfe, QeR, Qlx]
 try simp only [Jv, eY]
 all_goals rfl
theorem Ql3 (s) : CP T (n + 1) 139 [.i .i64 s] = (Qbx s).map fun r => .i .i64 r := by
 rw [Qi]
 simp -dsimp +contextual only [↓evA, eZ, Nat.reduceAdd, Nat.reduceMul, Nat.reduceBEq, Nat.reduceLeDiff, Nat.reduceLT, Tryz.func139, Tryz.f139, QJS, Qr1]
 try simp only [Qbx, eY]
 all_goals rfl
theorem Qgd (a3 a4) {R1 a R2 a2} [H1 : EncR Va R1 a] [H2 : EncL Qw R2 a2] : LP T (n + 6) 65 4 (frm [(1, .ptr 0 0 0), (14, .imm 5 R2), (15, .i .i64 a3), (16, .i .i64 a4)]) [some (Ent.box R1)] =
  Zs (run (QU a a2 a3) a4) (fun (zr : Bool) => (XE.ret, frm [(2, .b zr)], [])) (fun (zr : Unit) => (XE.exit 0, frm [], [])) := by
 rcases H1, H2 with ⟨⟨rfl⟩, ⟨rfl⟩⟩
 rw [QA]
 simp -dsimp only [↓evA, evB, Qm, Tryz.func65, Tryz.f65, QHS, Qvt, TP, TZ, Nat.reduceAdd, Nat.reduceMul, Nat.reduceBEq, Nat.reduceLeDiff, Nat.reduceLT]
 apply Qu a4
 intro a4
 simp -dsimp +contextual (maxSteps := 100000000) only [↓evA, eZ, Nat.reduceAdd, Nat.reduceMul, Nat.reduceBEq, Nat.reduceLeDiff, Nat.reduceLT, QaF, Qfe, Qky, QhF, Ql3]
 try simp only [QU, eY]
 all_goals rfl
theorem QiW {R1 a} [H1 : EncR Va R1 a] : CP T (n + 7) 65 [.agg R1] = (VH a).map fun r => .b r := by
 obtain ⟨rfl⟩ := H1
 rw [Qi]
 simp -dsimp +contextual (maxSteps := 100000000) only [↓evA, eZ, Nat.reduceAdd, Nat.reduceMul, Nat.reduceBEq, Nat.reduceLeDiff, Nat.reduceLT, Tryz.func65, Tryz.f65, QHS, Qvt, Qgd]
 try simp only [VH, eY]
 all_goals rfl
theorem QiO (a2 a4 a5) {R1 a R2 a3} [H1 : EncR Va R1 a] [H2 : EncL QE R2 a3] : LP T (n + 1) 66 3 (frm [(1, .ptr 0 0 0), (3, .i .i64 a2), (13, .imm 8 R2), (14, .i .i64 a4), (15, .i .i64 a5)]) [some (Ent.box R1)] =
  (run (ZE a a3 a4) (a2, a5)).map (fun (zr : Int) => (XE.exit 0, frm [(1, .ptr 0 0 0), (3, .i .i64 zr)], [some (Ent.box (Va a))])) := by
 rcases H1, H2 with ⟨⟨rfl⟩, ⟨rfl⟩⟩
 rw [QA]
 simp -dsimp only [↓evA, evB, Qm, Tryz.func66, Tryz.f66, QvE, Qpr, TP, TZ, Nat.reduceAdd, Nat.reduceMul, Nat.reduceBEq, Nat.reduceLeDiff, Nat.reduceLT]
 apply Vg a2 a5
 intro a2 a5
 simp -dsimp +contextual (maxSteps := 100000000) only [↓evA, eZ, Nat.reduceAdd, Nat.reduceMul, Nat.reduceBEq, Nat.reduceLeDiff, Nat.reduceLT]
 try simp only [ZE, eY]
 all_goals rfl
theorem Qis (a2 a4 a5) {R1 a R2 a3} [H1 : EncR Va R1 a] [H2 : EncL Qw R2 a3] : LP T (n + 1) 66 8 (frm [(1, .ptr 0 0 0), (3, .i .i64 a2), (25, .imm 5 R2), (26, .i .i64 a4), (27, .i .i64 a5)]) [some (Ent.box R1)] =
  (run (ZM a a3 a4) (a2, a5)).map (fun (zr : Int) => (XE.exit 2, frm [(1, .ptr 0 0 0), (3, .i .i64 zr)], [some (Ent.box (Va a))])) := by
 rcases H1, H2 with ⟨⟨rfl⟩, ⟨rfl⟩⟩
 rw [QA]
 simp -dsimp only [↓evA, evB, Qm, Tryz.func66, Tryz.f66, QvE, Qpr, TP, TZ, Nat.reduceAdd, Nat.reduceMul, Nat.reduceBEq, Nat.reduceLeDiff, Nat.reduceLT]
 apply Vg a2 a5
 intro a2 a5
 simp -dsimp +contextual (maxSteps := 100000000) only [↓evA, eZ, Nat.reduceAdd, Nat.reduceMul, Nat.reduceBEq, Nat.reduceLeDiff, Nat.reduceLT]
 try simp only [ZM, eY]
 all_goals rfl
theorem Qhv (a2 a4 a5) {R1 a R2 a3} [H1 : EncR Va R1 a] [H2 : EncL VT R2 a3] : LP T (n + 1) 66 13 (frm [(1, .ptr 0 0 0), (3, .i .i64 a2), (37, .imm 5 R2), (38, .i .i64 a4), (39, .i .i64 a5)]) [some (Ent.box R1)] =
  (run (J8 a a3 a4) (a2, a5)).map (fun (zr : Int) => (XE.exit 4, frm [(1, .ptr 0 0 0), (3, .i .i64 zr)], [some (Ent.box (Va a))])) := by
 rcases H1, H2 with ⟨⟨rfl⟩, ⟨rfl⟩⟩
 rw [QA]
 simp -dsimp only [↓evA, evB, Qm, Tryz.func66, Tryz.f66, QvE, Qpr, TP, TZ, Nat.reduceAdd, Nat.reduceMul, Nat.reduceBEq, Nat.reduceLeDiff, Nat.reduceLT]
 apply Vg a2 a5
 intro a2 a5
 simp -dsimp +contextual (maxSteps := 100000000) only [↓evA, eZ, Nat.reduceAdd, Nat.reduceMul, Nat.reduceBEq, Nat.reduceLeDiff, Nat.reduceLT]
 try simp only [J8, eY]
 all_goals rfl
theorem QhG (a a3 a4) {R1 a2} [H1 : EncL VO R1 a2] : LP T (n + 1) 66 18 (frm [(3, .i .i64 a), (49, .imm 4 R1), (50, .i .i64 a3), (51, .i .i64 a4)]) [] =
  (run (J5 a2 a3) (a, a4)).map (fun (zr : Int) => (XE.exit 6, frm [(3, .i .i64 zr)], [])) := by
 obtain ⟨rfl⟩ := H1
 rw [QA]
 simp -dsimp only [↓evA, evB, Qm, Tryz.func66, Tryz.f66, QvE, Qpr, TP, TZ, Nat.reduceAdd, Nat.reduceMul, Nat.reduceBEq, Nat.reduceLeDiff, Nat.reduceLT]
 apply Vg a a4
 intro a a4
 simp -dsimp +contextual only [↓evA, eZ, Nat.reduceAdd, Nat.reduceMul, Nat.reduceBEq, Nat.reduceLeDiff, Nat.reduceLT]
 try simp only [J5, eY]
 all_goals rfl
theorem QlQ {R1 a} [H1 : EncR Va R1 a] : CP T (n + 2) 66 [.agg R1] = (Qco a).map fun r => .i .i64 r := by
 obtain ⟨rfl⟩ := H1
 rw [Qi]
 simp -dsimp +contextual (maxSteps := 100000000) only [↓evA, eZ, Nat.reduceAdd, Nat.reduceMul, Nat.reduceBEq, Nat.reduceLeDiff, Nat.reduceLT, Tryz.func66, Tryz.f66, QvE, Qpr, QiO, Qis, Qhv, QhG]
 try simp only [Qco, eY]
 all_goals rfl
theorem QlG {R1 a} [H1 : EncR Va R1 a] : CP T (n + 11) 11 [.agg R1] = (QF a).map fun r => .b r := by
 obtain ⟨rfl⟩ := H1
 rw [Qi]
 simp -dsimp +contextual (maxSteps := 100000000) only [↓evA, eZ, Nat.reduceAdd, Nat.reduceMul, Nat.reduceBEq, Nat.reduceLeDiff, Nat.reduceLT, Tryz.func11, Tryz.f11, QPC, Qx3, VD, Qbi, QhP, Qjt, Qiy, Qfp, Qin, Qkx, QiW, QlQ]
 try simp only [QF, eY]
 all_goals rfl
theorem Qfk (a2 a3) {R1 c R2 a} [H1 : EncL QaD R1 c] [H2 : EncL QE R2 a] : LP T (n + 3) 5 6 (frm [(0, .imm 1 R1), (3, .sl 0), (4, .i .i64 a2), (5, .i .i64 a3)]) [some (Ent.lst 8 R2)] =
  (run (V7 c a) (a2, a3)).map (fun (zr : Int) => (XE.exit 0, frm [(0, .imm 1 (c.map QaD)), (3, .sl 0), (4, .i .i64 zr)], [some (Ent.lst 8 (a.map QE))])) := by
 rcases H1, H2 with ⟨⟨rfl⟩, ⟨rfl⟩⟩
 rw [QA]
 simp -dsimp only [↓evA, evB, Qm, Tryz.func5, Tryz.f5, Aa5, An5, TP, TZ, Nat.reduceAdd, Nat.reduceMul, Nat.reduceBEq, Nat.reduceLeDiff, Nat.reduceLT]
 apply Vg a2 a3
 intro a2 a3
 simp -dsimp +contextual only [↓evA, eZ, Nat.reduceAdd, Nat.reduceMul, Nat.reduceBEq, Nat.reduceLeDiff, Nat.reduceLT, Qjb]
 try simp only [V7, eY]
 all_goals rfl
theorem QeV (a2 a3) {R1 c R2 a} [H1 : EncL QaD R1 c] [H2 : EncL QE R2 a] : LP T (n + 3) 5 15 (frm [(0, .imm 1 R1), (3, .sl 0), (6, .i .i64 a2), (7, .i .i64 a3)]) [some (Ent.lst 8 R2)] =
  Zs (run (QY c a a2) a3) (fun (zr : Bool) => (XE.ret, frm [(2, .b zr)], [])) (fun (zr : Unit) => (XE.exit 2, frm [(0, .imm 1 (c.map QaD)), (3, .sl 0)], [some (Ent.lst 8 (a.map QE))])) := by
 rcases H1, H2 with ⟨⟨rfl⟩, ⟨rfl⟩⟩
 rw [QA]
 simp -dsimp only [↓evA, evB, Qm, Tryz.func5, Tryz.f5, Aa5, An5, TP, TZ, Nat.reduceAdd, Nat.reduceMul, Nat.reduceBEq, Nat.reduceLeDiff, Nat.reduceLT]
 apply Qu a3
 intro a3
 simp -dsimp +contextual only [↓evA, eZ, Nat.reduceAdd, Nat.reduceMul, Nat.reduceBEq, Nat.reduceLeDiff, Nat.reduceLT, Qfc]
 try simp only [QY, eY]
 all_goals rfl
theorem Qe2 (a2 a3) {R1 c R2 a} [H1 : EncL QaD R1 c] [H2 : EncL QE R2 a] : LP T (n + 6) 5 21 (frm [(0, .imm 1 R1), (3, .sl 0), (8, .i .i64 a2), (9, .i .i64 a3)]) [some (Ent.lst 8 R2)] =
  Zs (run (Q7 c a a2) a3) (fun (zr : Bool) => (XE.ret, frm [(2, .b zr)], [])) (fun (zr : Unit) => (XE.exit 4, frm [(0, .imm 1 (c.map QaD)), (3, .sl 0)], [some (Ent.lst 8 (a.map QE))])) := by
 rcases H1, H2 with ⟨⟨rfl⟩, ⟨rfl⟩⟩
 rw [QA]
 simp -dsimp only [↓evA, evB, Qm, Tryz.func5, Tryz.f5, Aa5, An5, TP, TZ, Nat.reduceAdd, Nat.reduceMul, Nat.reduceBEq, Nat.reduceLeDiff, Nat.reduceLT]
 apply Qu a3
 intro a3
 simp -dsimp +contextual only [↓evA, eZ, Nat.reduceAdd, Nat.reduceMul, Nat.reduceBEq, Nat.reduceLeDiff, Nat.reduceLT, Qbi, QaF]
 try simp only [Q7, eY]
 all_goals rfl
theorem Qhk {R1 c} [H1 : EncL QaD R1 c] : CP T (n + 19) 5 [.imm 1 R1] = (Qbg c).map fun r => .b r := by
 obtain ⟨rfl⟩ := H1
 rw [Qi]
 simp -dsimp +contextual only [↓evA, eZ, Nat.reduceAdd, Nat.reduceMul, Nat.reduceBEq, Nat.reduceLeDiff, Nat.reduceLT, Tryz.func5, Tryz.f5, Aa5, An5, Qqc, Qd2, Qga, Qbi, Qcz, QhO, Qej, QeY, Qhb, QkN, Qh6, QlG, Qfk, QeV, Qe2]
 try simp only [Qbg, eY]
 all_goals rfl
end Go.Proofs.YtkbilciipmijjaaGreat
