import Derived.Test.YtncpklppoancgaaGreatEq1
namespace Go.Proofs.YtncpklppoancgaaGreat
open Go Go.Proofs Go.Proofs.YtncpklppoancgaaGreat.Am
set_option maxHeartbeats 4000000
set_option linter.unusedVariables false
set_option linter.unusedSimpArgs false
set_option linter.defProp false
set_option maxRecDepth 100000
variable (n : Nat)
theorem Qja {R1 a} [H1 : EncR Vg R1 a] : CP T (n + 10) 49 [.agg R1] = (Vl a).map fun r => .b r := by
 obtain ⟨rfl⟩ := H1
 rw [Qk]
 simp -dsimp +contextual (maxSteps := 100000000) only [↓evA, eZ, Nat.reduceAdd, Nat.reduceMul, Nat.reduceBEq, Nat.reduceLeDiff, Nat.reduceLT, Tryz.func49, Tryz.f49, Qxe, QnR, Qdk, Qgc, Qe8, Qfg]
 try simp only [Vl, eY]
 all_goals rfl
theorem Qdo {R1 a} [H1 : EncR Xh R1 a] : CP T (n + 2) 104 [.agg R1] = (ZN a).map fun r => .b r := by
 obtain ⟨rfl⟩ := H1
 rw [Qk]
 simp -dsimp +contextual only [↓evA, eZ, Nat.reduceAdd, Nat.reduceMul, Nat.reduceBEq, Nat.reduceLeDiff, Nat.reduceLT, Tryz.func104, Tryz.f104, QGP, Qpa, Vi]
 try simp only [ZN, eY]
 all_goals rfl
theorem QfU (c) {R1 a} [H1 : EncR Vb R1 a] : CP T (n + 1) 206 [.agg R1, .iptr 1 [[.i .i64 c]] 0 0] = (Qaa a c).map fun r => .b r := by
 obtain ⟨rfl⟩ := H1
 rw [Qk]
 simp -dsimp +contextual only [↓evA, eZ, Nat.reduceAdd, Nat.reduceMul, Nat.reduceBEq, Nat.reduceLeDiff, Nat.reduceLT, Tryz.func206, Tryz.f206, QCw, Qps]
 try simp only [Qaa, eY]
 all_goals rfl
theorem JG (f a a2) {R1 s} [H1 : EncL Vb R1 s] : LP T (n + 2) 205 2 (frm [(0, .imm 3 R1), (1, .clo 206 [.iptr 1 [[.i .i64 f]] 0 0]), (7, .i .i64 a), (8, .i .i64 a2)]) [] =
  X7 (run (Qn s f a) a2) (fun (zr : Int) => (XE.ret, frm [(4, .i .i64 zr)], [])) (fun (zr : Unit) => (XE.exit 0, frm [], [])) := by
 obtain ⟨rfl⟩ := H1
 rw [QA]
 simp -dsimp only [↓evA, evB, Qm, Tryz.func205, Tryz.f205, QxG, QlF, TP, TZ, Nat.reduceAdd, Nat.reduceMul, Nat.reduceBEq, Nat.reduceLeDiff, Nat.reduceLT]
 apply Qq a2
 intro a2
 simp -dsimp +contextual only [↓evA, eZ, Nat.reduceAdd, Nat.reduceMul, Nat.reduceBEq, Nat.reduceLeDiff, Nat.reduceLT, QfU]
 try simp only [Qn, eY]
 all_goals rfl
theorem J3 (c) {R1 s} [H1 : EncL Vb R1 s] : CP T (n + 3) 205 [.imm 3 R1, .clo 206 [.iptr 1 [[.i .i64 c]] 0 0]] = (QR s c).map fun r => .i .i64 r := by
 obtain ⟨rfl⟩ := H1
 rw [Qk]
 simp -dsimp +contextual only [↓evA, eZ, Nat.reduceAdd, Nat.reduceMul, Nat.reduceBEq, Nat.reduceLeDiff, Nat.reduceLT, Tryz.func205, Tryz.f205, QxG, QlF, JG]
 try simp only [QR, eY]
 all_goals rfl
theorem Qhw (a) {R1 l} [H1 : EncL Vb R1 l] : CP T (n + 4) 137 [.imm 3 R1, .i .i64 a] = (Qa2 l a).map fun r => .i .i64 r := by
 obtain ⟨rfl⟩ := H1
 rw [Qk]
 simp -dsimp +contextual only [↓evA, eZ, Nat.reduceAdd, Nat.reduceMul, Nat.reduceBEq, Nat.reduceLeDiff, Nat.reduceLT, Tryz.func137, Tryz.f137, QHu, Qpw, J3]
 try simp only [Qa2, eY]
 all_goals rfl
theorem Qef {R1 s} [H1 : EncL VF R1 s] : CP T (n + 1) 138 [.imm 2 R1] = (Zu s).map fun r => .own 2 (r.map VF) := by
 obtain ⟨rfl⟩ := H1
 rw [Qk]
 simp -dsimp +contextual only [↓evA, eZ, Nat.reduceAdd, Nat.reduceMul, Nat.reduceBEq, Nat.reduceLeDiff, Nat.reduceLT, Tryz.func138, Tryz.f138, QEp, Qqt]
 try simp only [Zu, eY]
 all_goals first | rfl | (simp +contextual only [evN] <;> rfl)
theorem Qh5 (a) {R1 l} [H1 : EncL Vb R1 l] : CP T (n + 5) 81 [.imm 3 R1, .i .i64 a] = (QaC l a).map fun r => .own 2 (r.map VF) := by
 obtain ⟨rfl⟩ := H1
 rw [Qk]
 simp -dsimp +contextual only [↓evA, eZ, Nat.reduceAdd, Nat.reduceMul, Nat.reduceBEq, Nat.reduceLeDiff, Nat.reduceLT, Tryz.func81, Tryz.f81, QLg, Qwk, Qhw, Qef]
 try simp only [QaC, eY]
 all_goals first | rfl | (simp +contextual only [evN] <;> rfl)
theorem Qi1 {R1 l} [H1 : EncL VF R1 l] : CP T (n + 1) 157 [.imm 2 R1] = (ZY l).map fun r => .i .i64 r := by
 obtain ⟨rfl⟩ := H1
 rw [Qk]
 simp -dsimp +contextual only [↓evA, eZ, Nat.reduceAdd, Nat.reduceMul, Nat.reduceBEq, Nat.reduceLeDiff, Nat.reduceLT, Tryz.func157, Tryz.f157, QCf, Qpi]
 try simp only [ZY, eY]
 all_goals rfl
theorem QfC {R1 l R2 a} [H1 : EncL VF R1 l] [H2 : EncR Xh R2 a] : CP T (n + 4) 83 [.imm 2 R1, .agg R2] = (Zb l a).map fun r => .i .i64 r := by
 rcases H1, H2 with ⟨⟨rfl⟩, ⟨rfl⟩⟩
 rw [Qk]
 simp -dsimp +contextual only [↓evA, eZ, Nat.reduceAdd, Nat.reduceMul, Nat.reduceBEq, Nat.reduceLeDiff, Nat.reduceLT, Tryz.func83, Tryz.f83, QMX, QwB, Qdo, Qc4, Qi1]
 try simp only [Zb, eY]
 all_goals rfl
theorem Qji (s) : CP T (n + 1) 105 [.i .i64 s] = (Qb3 s).map fun r => .i .i64 r := by
 rw [Qk]
 simp -dsimp +contextual only [↓evA, eZ, Nat.reduceAdd, Nat.reduceMul, Nat.reduceBEq, Nat.reduceLeDiff, Nat.reduceLT, Tryz.func105, Tryz.f105, QIS, Qp8]
 try simp only [Qb3, eY]
 all_goals rfl
theorem Qew (a3 a4) {R1 a R2 a2} [H1 : EncR Vg R1 a] [H2 : EncL QK R2 a2] : LP T (n + 6) 50 4 (frm [(1, .ptr 0 0 0), (14, .imm 5 R2), (15, .i .i64 a3), (16, .i .i64 a4)]) [some (Ent.box R1)] =
  X7 (run (Xp a a2 a3) a4) (fun (zr : Bool) => (XE.ret, frm [(2, .b zr)], [])) (fun (zr : Unit) => (XE.exit 0, frm [], [])) := by
 rcases H1, H2 with ⟨⟨rfl⟩, ⟨rfl⟩⟩
 rw [QA]
 simp -dsimp only [↓evA, evB, Qm, Tryz.func50, Tryz.f50, QCz, QsO, TP, TZ, Nat.reduceAdd, Nat.reduceMul, Nat.reduceBEq, Nat.reduceLeDiff, Nat.reduceLT]
 apply Qq a4
 intro a4
 simp -dsimp +contextual (maxSteps := 100000000) only [↓evA, eZ, Nat.reduceAdd, Nat.reduceMul, Nat.reduceBEq, Nat.reduceLeDiff, Nat.reduceLT, QaW, Qdo, Qh5, QfC, Qji]
 try simp only [Xp, eY]
 all_goals rfl
theorem Qgp {R1 a} [H1 : EncR Vg R1 a] : CP T (n + 7) 50 [.agg R1] = (X0 a).map fun r => .b r := by
 obtain ⟨rfl⟩ := H1
 rw [Qk]
 simp -dsimp +contextual (maxSteps := 100000000) only [↓evA, eZ, Nat.reduceAdd, Nat.reduceMul, Nat.reduceBEq, Nat.reduceLeDiff, Nat.reduceLT, Tryz.func50, Tryz.f50, QCz, QsO, Qew]
 try simp only [X0, eY]
 all_goals rfl
theorem QgG (a2 a4 a5) {R1 a R2 a3} [H1 : EncR Vg R1 a] [H2 : EncL VL R2 a3] : LP T (n + 1) 51 3 (frm [(1, .ptr 0 0 0), (3, .i .i64 a2), (13, .imm 8 R2), (14, .i .i64 a4), (15, .i .i64 a5)]) [some (Ent.box R1)] =
  (run (JL a a3 a4) (a2, a5)).map (fun (zr : Int) => (XE.exit 0, frm [(1, .ptr 0 0 0), (3, .i .i64 zr)], [some (Ent.box (Vg a))])) := by
 rcases H1, H2 with ⟨⟨rfl⟩, ⟨rfl⟩⟩
 rw [QA]
 simp -dsimp only [↓evA, evB, Qm, Tryz.func51, Tryz.f51, Quh, QnF, TP, TZ, Nat.reduceAdd, Nat.reduceMul, Nat.reduceBEq, Nat.reduceLeDiff, Nat.reduceLT]
 apply VV a2 a5
 intro a2 a5
 simp -dsimp +contextual (maxSteps := 100000000) only [↓evA, eZ, Nat.reduceAdd, Nat.reduceMul, Nat.reduceBEq, Nat.reduceLeDiff, Nat.reduceLT]
 try simp only [JL, eY]
 all_goals rfl
theorem Qgl (a2 a4 a5) {R1 a R2 a3} [H1 : EncR Vg R1 a] [H2 : EncL QK R2 a3] : LP T (n + 1) 51 8 (frm [(1, .ptr 0 0 0), (3, .i .i64 a2), (25, .imm 5 R2), (26, .i .i64 a4), (27, .i .i64 a5)]) [some (Ent.box R1)] =
  (run (JT a a3 a4) (a2, a5)).map (fun (zr : Int) => (XE.exit 2, frm [(1, .ptr 0 0 0), (3, .i .i64 zr)], [some (Ent.box (Vg a))])) := by
 rcases H1, H2 with ⟨⟨rfl⟩, ⟨rfl⟩⟩
 rw [QA]
 simp -dsimp only [↓evA, evB, Qm, Tryz.func51, Tryz.f51, Quh, QnF, TP, TZ, Nat.reduceAdd, Nat.reduceMul, Nat.reduceBEq, Nat.reduceLeDiff, Nat.reduceLT]
 apply VV a2 a5
 intro a2 a5
 simp -dsimp +contextual (maxSteps := 100000000) only [↓evA, eZ, Nat.reduceAdd, Nat.reduceMul, Nat.reduceBEq, Nat.reduceLeDiff, Nat.reduceLT]
 try simp only [JT, eY]
 all_goals rfl
theorem Qf1 (a2 a4 a5) {R1 a R2 a3} [H1 : EncR Vg R1 a] [H2 : EncL Vo R2 a3] : LP T (n + 1) 51 13 (frm [(1, .ptr 0 0 0), (3, .i .i64 a2), (37, .imm 5 R2), (38, .i .i64 a4), (39, .i .i64 a5)]) [some (Ent.box R1)] =
  (run (Ji a a3 a4) (a2, a5)).map (fun (zr : Int) => (XE.exit 4, frm [(1, .ptr 0 0 0), (3, .i .i64 zr)], [some (Ent.box (Vg a))])) := by
 rcases H1, H2 with ⟨⟨rfl⟩, ⟨rfl⟩⟩
 rw [QA]
 simp -dsimp only [↓evA, evB, Qm, Tryz.func51, Tryz.f51, Quh, QnF, TP, TZ, Nat.reduceAdd, Nat.reduceMul, Nat.reduceBEq, Nat.reduceLeDiff, Nat.reduceLT]
 apply VV a2 a5
 intro a2 a5
 simp -dsimp +contextual (maxSteps := 100000000) only [↓evA, eZ, Nat.reduceAdd, Nat.reduceMul, Nat.reduceBEq, Nat.reduceLeDiff, Nat.reduceLT]
 try simp only [Ji, eY]
 all_goals rfl
theorem QfJ (a a3 a4) {R1 a2} [H1 : EncL VB R1 a2] : LP T (n + 1) 51 18 (frm [(3, .i .i64 a), (49, .imm 4 R1), (50, .i .i64 a3), (51, .i .i64 a4)]) [] =
  (run (Je a2 a3) (a, a4)).map (fun (zr : Int) => (XE.exit 6, frm [(3, .i .i64 zr)], [])) := by
 obtain ⟨rfl⟩ := H1
 rw [QA]
 simp -dsimp only [↓evA, evB, Qm, Tryz.func51, Tryz.f51, Quh, QnF, TP, TZ, Nat.reduceAdd, Nat.reduceMul, Nat.reduceBEq, Nat.reduceLeDiff, Nat.reduceLT]
 apply VV a a4
 intro a a4
 simp -dsimp +contextual only [↓evA, eZ, Nat.reduceAdd, Nat.reduceMul, Nat.reduceBEq, Nat.reduceLeDiff, Nat.reduceLT]
 try simp only [Je, eY]
 all_goals rfl
theorem Qjn {R1 a} [H1 : EncR Vg R1 a] : CP T (n + 2) 51 [.agg R1] = (Qbh a).map fun r => .i .i64 r := by
 obtain ⟨rfl⟩ := H1
 rw [Qk]
 simp -dsimp +contextual (maxSteps := 100000000) only [↓evA, eZ, Nat.reduceAdd, Nat.reduceMul, Nat.reduceBEq, Nat.reduceLeDiff, Nat.reduceLT, Tryz.func51, Tryz.f51, Quh, QnF, QgG, Qgl, Qf1, QfJ]
 try simp only [Qbh, eY]
 all_goals rfl
theorem Qdu {R1 a} [H1 : EncR Vg R1 a] : CP T (n + 11) 10 [.agg R1] = (QZ a).map fun r => .b r := by
 obtain ⟨rfl⟩ := H1
 rw [Qk]
 simp -dsimp +contextual (maxSteps := 100000000) only [↓evA, eZ, Nat.reduceAdd, Nat.reduceMul, Nat.reduceBEq, Nat.reduceLeDiff, Nat.reduceLT, Tryz.func10, Tryz.f10, QLZ, QvX, Vi, Qhr, QfZ, Qc8, QgY, Qdn, Qfv, Qja, Qgp, Qjn]
 try simp only [QZ, eY]
 all_goals rfl
theorem Qhq (a) {R1 s} [H1 : EncL QV R1 s] : CP T (n + 12) 7 [.i .i64 a, .imm 3 R1] = (Jw a s).map fun r => .tup [.agg (Qae r.1), .b r.2] := by
 obtain ⟨rfl⟩ := H1
 rw [Qk]
 simp -dsimp +contextual (maxSteps := 100000000) only [↓evA, eZ, Nat.reduceAdd, Nat.reduceMul, Nat.reduceBEq, Nat.reduceLeDiff, Nat.reduceLT, Tryz.func7, Tryz.f7, Aa7, An7, Qez, Qdu]
 try simp only [Jw, eY]
 all_goals rfl
theorem Qeh (a a3 a4) {R1 a2} [H1 : EncL QV R1 a2] : LP T (n + 1) 9 3 (frm [(3, .i .i64 a), (6, .imm 3 R1), (7, .i .i64 a3), (8, .i .i64 a4)]) [] =
  (run (VQ a2 a3) (a, a4)).map (fun (zr : Int) => (XE.exit 0, frm [(3, .i .i64 zr)], [])) := by
 obtain ⟨rfl⟩ := H1
 rw [QA]
 simp -dsimp only [↓evA, evB, Qm, Tryz.func9, Tryz.f9, Aa9, An9, TP, TZ, Nat.reduceAdd, Nat.reduceMul, Nat.reduceBEq, Nat.reduceLeDiff, Nat.reduceLT]
 apply VV a a4
 intro a a4
 simp -dsimp +contextual only [↓evA, eZ, Nat.reduceAdd, Nat.reduceMul, Nat.reduceBEq, Nat.reduceLeDiff, Nat.reduceLT]
 try simp only [VQ, eY]
 all_goals rfl
theorem QgP {R1 l} [H1 : EncL QV R1 l] : CP T (n + 2) 9 [.imm 3 R1] = (X2 l).map fun r => .i .i64 r := by
 obtain ⟨rfl⟩ := H1
 rw [Qk]
 simp -dsimp +contextual only [↓evA, eZ, Nat.reduceAdd, Nat.reduceMul, Nat.reduceBEq, Nat.reduceLeDiff, Nat.reduceLT, Tryz.func9, Tryz.f9, Aa9, An9, Qeh]
 try simp only [X2, eY]
 all_goals rfl
theorem Qhe (a3 a4) {R1 a R2 o R3 a2} [H1 : EncR Vg R1 a] [H2 : EncL Vj R2 o] [H3 : EncL VL R3 a2] : LP T (n + 5) 11 3 (frm [(1, .ptr 0 0 0), (3, .sl 1), (8, .imm 8 R3), (9, .i .i64 a3), (10, .i .i64 a4)]) [some (Ent.box R1), some (Ent.lst 1 R2)] =
  (run (Zo a a2 a3) (o, a4)).map (fun (zr : (List Int)) => (XE.exit 0, frm [(3, .sl 0)], [some (Ent.lst 1 (zr.map Vj))])) := by
 rcases H1, H2, H3 with ⟨⟨rfl⟩, ⟨rfl⟩, ⟨rfl⟩⟩
 rw [QA]
 simp -dsimp only [↓evA, evB, Qm, Tryz.func11, Tryz.f11, QGH, Qtl, TP, TZ, Nat.reduceAdd, Nat.reduceMul, Nat.reduceBEq, Nat.reduceLeDiff, Nat.reduceLT]
 apply VV o a4
 intro o a4
 simp -dsimp +contextual (maxSteps := 100000000) only [↓evA, eZ, Nat.reduceAdd, Nat.reduceMul, Nat.reduceBEq, Nat.reduceLeDiff, Nat.reduceLT, Qbq]
 try simp only [Zo, eY]
 all_goals rfl
theorem QkC {R1 a} [H1 : EncR Vg R1 a] : CP T (n + 6) 11 [.agg R1] = (JB a).map fun r => .own 1 (r.map Vj) := by
 obtain ⟨rfl⟩ := H1
 rw [Qk]
 simp -dsimp +contextual (maxSteps := 100000000) only [↓evA, eZ, Nat.reduceAdd, Nat.reduceMul, Nat.reduceBEq, Nat.reduceLeDiff, Nat.reduceLT, Tryz.func11, Tryz.f11, QGH, Qtl, Qhe]
 try simp only [JB, eY]
 all_goals first | rfl | (simp +contextual only [evN] <;> rfl)
theorem Qfl (i) {R1 l R2 o} [H1 : EncL Vb R1 l] [H2 : EncL XA R2 o] : LP T (n + 1) 119 3 (frm [(0, .imm 3 R1), (3, .sl 0), (4, .i .i64 i)]) [some (Ent.lst 3 R2)] =
  (run (Xw l) (o, i)).map (fun (zr : (List Secret)) => (XE.exit 0, frm [(3, .sl 0)], [some (Ent.lst 3 (zr.map XA))])) := by
 rcases H1, H2 with ⟨⟨rfl⟩, ⟨rfl⟩⟩
 rw [QA]
 simp -dsimp only [↓evA, evB, Qm, Tryz.func119, Tryz.f119, Qx7, Qmo, TP, TZ, Nat.reduceAdd, Nat.reduceMul, Nat.reduceBEq, Nat.reduceLeDiff, Nat.reduceLT]
 apply VV o i
 intro o i
 simp -dsimp +contextual only [↓evA, eZ, Nat.reduceAdd, Nat.reduceMul, Nat.reduceBEq, Nat.reduceLeDiff, Nat.reduceLT]
 try simp only [Xw, eY]
 all_goals rfl
theorem Qi7 {R1 l} [H1 : EncL Vb R1 l] : CP T (n + 2) 119 [.imm 3 R1] = (QaN l).map fun r => .own 3 (r.map XA) := by
 obtain ⟨rfl⟩ := H1
 rw [Qk]
 simp -dsimp +contextual only [↓evA, eZ, Nat.reduceAdd, Nat.reduceMul, Nat.reduceBEq, Nat.reduceLeDiff, Nat.reduceLT, Tryz.func119, Tryz.f119, Qx7, Qmo, Qfl]
 try simp only [QaN, eY]
 all_goals first | rfl | (simp +contextual only [evN] <;> rfl)
theorem Qds {R1 a} [H1 : EncR Vg R1 a] : CP T (n + 3) 59 [.agg R1] = (ZM a).map fun r => .agg (Qae r) := by
 obtain ⟨rfl⟩ := H1
 rw [Qk]
 simp -dsimp +contextual (maxSteps := 100000000) only [↓evA, eZ, Nat.reduceAdd, Nat.reduceMul, Nat.reduceBEq, Nat.reduceLeDiff, Nat.reduceLT, Tryz.func59, Tryz.f59, QJz, QuQ, Qi7]
 try simp only [ZM, eY]
 all_goals rfl
theorem Qjp {R1 f} [H1 : EncR VL R1 f] : CP T (n + 3) 260 [.agg R1] = (Qbi f).map fun r => .b r := by
 obtain ⟨rfl⟩ := H1
 rw [Qk]
 simp -dsimp +contextual only [↓evA, eZ, Nat.reduceAdd, Nat.reduceMul, Nat.reduceBEq, Nat.reduceLeDiff, Nat.reduceLT, Tryz.func260, Tryz.f260, QG5, Qp5, QdL, Xi]
 try simp only [Qbi, eY]
 all_goals rfl
theorem QeQ (i) {R1 l} [H1 : EncL VL R1 l] : LP T (n + 4) 235 2 (frm [(0, .imm 8 R1), (3, .i .i64 i)]) [] =
  X7 (run (VH l) i) (fun (zr : Bool) => (XE.ret, frm [(2, .b zr)], [])) (fun (zr : Unit) => (XE.exit 0, frm [(0, .imm 8 (l.map VL))], [])) := by
 obtain ⟨rfl⟩ := H1
 rw [QA]
 simp -dsimp only [↓evA, evB, Qm, Tryz.func235, Tryz.f235, Qxo, QmL, TP, TZ, Nat.reduceAdd, Nat.reduceMul, Nat.reduceBEq, Nat.reduceLeDiff, Nat.reduceLT]
 apply Qq i
 intro i
 simp -dsimp +contextual only [↓evA, eZ, Nat.reduceAdd, Nat.reduceMul, Nat.reduceBEq, Nat.reduceLeDiff, Nat.reduceLT, Qjp]
 try simp only [VH, eY]
 all_goals rfl
theorem Qhv {R1 l} [H1 : EncL VL R1 l] : CP T (n + 5) 235 [.imm 8 R1] = (XG l).map fun r => .b r := by
 obtain ⟨rfl⟩ := H1
 rw [Qk]
 simp -dsimp +contextual only [↓evA, eZ, Nat.reduceAdd, Nat.reduceMul, Nat.reduceBEq, Nat.reduceLeDiff, Nat.reduceLT, Tryz.func235, Tryz.f235, Qxo, QmL, QeQ]
 try simp only [XG, eY]
 all_goals rfl
theorem Qfe (i) {R1 l} [H1 : EncL VF R1 l] : LP T (n + 2) 248 2 (frm [(0, .imm 2 R1), (3, .i .i64 i)]) [] =
  X7 (run (XQ l) i) (fun (zr : Bool) => (XE.ret, frm [(2, .b zr)], [])) (fun (zr : Unit) => (XE.exit 0, frm [(0, .imm 2 (l.map VF))], [])) := by
 obtain ⟨rfl⟩ := H1
 rw [QA]
 simp -dsimp only [↓evA, evB, Qm, Tryz.func248, Tryz.f248, Qx4, Ql3, TP, TZ, Nat.reduceAdd, Nat.reduceMul, Nat.reduceBEq, Nat.reduceLeDiff, Nat.reduceLT]
 apply Qq i
 intro i
 simp -dsimp +contextual only [↓evA, eZ, Nat.reduceAdd, Nat.reduceMul, Nat.reduceBEq, Nat.reduceLeDiff, Nat.reduceLT, Xi]
 try simp only [XQ, eY]
 all_goals rfl
theorem Qbs {R1 l} [H1 : EncL VF R1 l] : CP T (n + 3) 248 [.imm 2 R1] = (XL l).map fun r => .b r := by
 obtain ⟨rfl⟩ := H1
 rw [Qk]
 simp -dsimp +contextual only [↓evA, eZ, Nat.reduceAdd, Nat.reduceMul, Nat.reduceBEq, Nat.reduceLeDiff, Nat.reduceLT, Tryz.func248, Tryz.f248, Qx4, Ql3, Qfe]
 try simp only [XL, eY]
 all_goals rfl
theorem Qdq (i) {R1 l} [H1 : EncL Vb R1 l] : LP T (n + 4) 236 2 (frm [(0, .imm 3 R1), (3, .i .i64 i)]) [] =
  X7 (run (Vy l) i) (fun (zr : Bool) => (XE.ret, frm [(2, .b zr)], [])) (fun (zr : Unit) => (XE.exit 0, frm [(0, .imm 3 (l.map Vb))], [])) := by
 obtain ⟨rfl⟩ := H1
 rw [QA]
 simp -dsimp only [↓evA, evB, Qm, Tryz.func236, Tryz.f236, Qya, Qmi, TP, TZ, Nat.reduceAdd, Nat.reduceMul, Nat.reduceBEq, Nat.reduceLeDiff, Nat.reduceLT]
 apply Qq i
 intro i
 simp -dsimp +contextual only [↓evA, eZ, Nat.reduceAdd, Nat.reduceMul, Nat.reduceBEq, Nat.reduceLeDiff, Nat.reduceLT, Xi, Qbs]
 try simp only [Vy, eY]
 all_goals rfl
theorem QfS {R1 l} [H1 : EncL Vb R1 l] : CP T (n + 5) 236 [.imm 3 R1] = (VY l).map fun r => .b r := by
 obtain ⟨rfl⟩ := H1
 rw [Qk]
 simp -dsimp +contextual only [↓evA, eZ, Nat.reduceAdd, Nat.reduceMul, Nat.reduceBEq, Nat.reduceLeDiff, Nat.reduceLT, Tryz.func236, Tryz.f236, Qya, Qmi, Qdq]
 try simp only [VY, eY]
 all_goals rfl
theorem QeB (i k) {R1 l R2 a} [H1 : EncL QK R1 l] [H2 : EncR QK R2 a] : LP T (n + 1) 237 8 (frm [(0, .imm 5 R1), (3, .i .i64 i), (4, .ptr 0 0 0), (5, .i .i64 k)]) [some (Ent.box R2)] =
  X7 (run (VO l i a) k) (fun (zr : Bool) => (XE.ret, frm [(2, .b zr)], [])) (fun (zr : Unit) => (XE.exit 2, frm [(0, .imm 5 (l.map QK)), (3, .i .i64 i)], [])) := by
 rcases H1, H2 with ⟨⟨rfl⟩, ⟨rfl⟩⟩
 rw [QA]
 simp -dsimp only [↓evA, evB, Qm, Tryz.func237, Tryz.f237, QtA, QjX, TP, TZ, Nat.reduceAdd, Nat.reduceMul, Nat.reduceBEq, Nat.reduceLeDiff, Nat.reduceLT]
 apply Qq k
 intro k
 simp -dsimp +contextual only [↓evA, eZ, Nat.reduceAdd, Nat.reduceMul, Nat.reduceBEq, Nat.reduceLeDiff, Nat.reduceLT]
 try simp only [VO, eY]
 all_goals rfl
theorem QeD (i) {R1 l} [H1 : EncL QK R1 l] : LP T (n + 2) 237 2 (frm [(0, .imm 5 R1), (3, .i .i64 i)]) [] =
  X7 (run (QO l) i) (fun (zr : Bool) => (XE.ret, frm [(2, .b zr)], [])) (fun (zr : Unit) => (XE.exit 0, frm [(0, .imm 5 (l.map QK))], [])) := by
 obtain ⟨rfl⟩ := H1
 rw [QA]
 simp -dsimp only [↓evA, evB, Qm, Tryz.func237, Tryz.f237, QtA, QjX, TP, TZ, Nat.reduceAdd, Nat.reduceMul, Nat.reduceBEq, Nat.reduceLeDiff, Nat.reduceLT]
 apply Qq i
 intro i
 simp -dsimp +contextual only [↓evA, eZ, Nat.reduceAdd, Nat.reduceMul, Nat.reduceBEq, Nat.reduceLeDiff, Nat.reduceLT, Xi, QeB]
 try simp only [QO, eY]
 all_goals rfl
theorem QaZ {R1 l} [H1 : EncL QK R1 l] : CP T (n + 3) 237 [.imm 5 R1] = (QP l).map fun r => .b r := by
 obtain ⟨rfl⟩ := H1
 rw [Qk]
 simp -dsimp +contextual only [↓evA, eZ, Nat.reduceAdd, Nat.reduceMul, Nat.reduceBEq, Nat.reduceLeDiff, Nat.reduceLT, Tryz.func237, Tryz.f237, QtA, QjX, QeD]
 try simp only [QP, eY]
 all_goals rfl
theorem QnX (a m) : CP T (n + 2) 254 [.i .i64 a, .i .i64 m] = (QdP a m).map fun r => .i .i64 r := by
 rw [Qk]
 simp -dsimp +contextual only [↓evA, eZ, Nat.reduceAdd, Nat.reduceMul, Nat.reduceBEq, Nat.reduceLeDiff, Nat.reduceLT, Tryz.func254, Tryz.f254, QE1, QpP, Xi]
 try simp only [QdP, eY]
 all_goals rfl
theorem QiE (d i) {R1 l} [H1 : EncL Vj R1 l] : LP T (n + 3) 216 3 (frm [(0, .imm 1 R1), (3, .i .i64 d), (4, .i .i64 i)]) [] =
  (run (Jm l) (d, i)).map (fun (zr : Int) => (XE.exit 0, frm [(3, .i .i64 zr)], [])) := by
 obtain ⟨rfl⟩ := H1
 rw [QA]
 simp -dsimp only [↓evA, evB, Qm, Tryz.func216, Tryz.f216, QxS, Qni, TP, TZ, Nat.reduceAdd, Nat.reduceMul, Nat.reduceBEq, Nat.reduceLeDiff, Nat.reduceLT]
 apply VV d i
 intro d i
 simp -dsimp +contextual only [↓evA, eZ, Nat.reduceAdd, Nat.reduceMul, Nat.reduceBEq, Nat.reduceLeDiff, Nat.reduceLT, QnX]
 try simp only [Jm, eY]
 all_goals rfl
theorem QnE {R1 l} [H1 : EncL Vj R1 l] : CP T (n + 4) 216 [.imm 1 R1] = (QaU l).map fun r => .i .i64 r := by
 obtain ⟨rfl⟩ := H1
 rw [Qk]
 simp -dsimp +contextual only [↓evA, eZ, Nat.reduceAdd, Nat.reduceMul, Nat.reduceBEq, Nat.reduceLeDiff, Nat.reduceLT, Tryz.func216, Tryz.f216, QxS, Qni, QiE]
 try simp only [QaU, eY]
 all_goals rfl
theorem Qc9 (b) {R1 a} [H1 : EncR Vo R1 a] : CP T (n + 5) 261 [.i .i64 b, .agg R1] = (JE b a).map fun r => .i .i64 r := by
 obtain ⟨rfl⟩ := H1
 rw [Qk]
 simp -dsimp +contextual only [↓evA, eZ, Nat.reduceAdd, Nat.reduceMul, Nat.reduceBEq, Nat.reduceLeDiff, Nat.reduceLT, Tryz.func261, Tryz.f261, QIL, Qo2, QnE]
 try simp only [JE, eY]
 all_goals rfl
theorem QfR (a b k i) {R1 l} [H1 : EncL Vo R1 l] : LP T (n + 1) 262 3 (frm [(0, .imm 5 R1), (1, .i .i64 a), (2, .i .i64 b), (7, .i .i64 k), (8, .i .i64 i)]) [] =
  (run (Xu l a b) (k, i)).map (fun (zr : Int) => (XE.exit 0, frm [(7, .i .i64 zr)], [])) := by
 obtain ⟨rfl⟩ := H1
 rw [QA]
 simp -dsimp only [↓evA, evB, Qm, Tryz.func262, Tryz.f262, Qx1, Qmk, TP, TZ, Nat.reduceAdd, Nat.reduceMul, Nat.reduceBEq, Nat.reduceLeDiff, Nat.reduceLT]
 apply VV k i
 intro k i
 simp -dsimp +contextual only [↓evA, eZ, Nat.reduceAdd, Nat.reduceMul, Nat.reduceBEq, Nat.reduceLeDiff, Nat.reduceLT]
 try simp only [Xu, eY]
 all_goals rfl
theorem QdH (a b) {R1 l} [H1 : EncL Vo R1 l] : CP T (n + 2) 262 [.imm 5 R1, .i .i64 a, .i .i64 b] = (ZI l a b).map fun r => .i .i64 r := by
 obtain ⟨rfl⟩ := H1
 rw [Qk]
 simp -dsimp +contextual only [↓evA, eZ, Nat.reduceAdd, Nat.reduceMul, Nat.reduceBEq, Nat.reduceLeDiff, Nat.reduceLT, Tryz.func262, Tryz.f262, Qx1, Qmk, QfR]
 try simp only [ZI, eY]
 all_goals rfl
theorem Qfp (s i) {R1 l} [H1 : EncL Vo R1 l] : LP T (n + 6) 238 3 (frm [(0, .imm 5 R1), (3, .i .i64 s), (4, .i .i64 i)]) [] =
  X7 (run (Qw l) (s, i)) (fun (zr : Bool) => (XE.ret, frm [(2, .b zr)], [])) (fun (zr : Unit) => (XE.exit 0, frm [(0, .imm 5 (l.map Vo))], [])) := by
 obtain ⟨rfl⟩ := H1
 rw [QA]
 simp -dsimp only [↓evA, evB, Qm, Tryz.func238, Tryz.f238, QxQ, QlV, TP, TZ, Nat.reduceAdd, Nat.reduceMul, Nat.reduceBEq, Nat.reduceLeDiff, Nat.reduceLT]
 apply VV s i
 intro s i
 simp -dsimp +contextual only [↓evA, eZ, Nat.reduceAdd, Nat.reduceMul, Nat.reduceBEq, Nat.reduceLeDiff, Nat.reduceLT, Qc9, Xi, QdH]
 try simp only [Qw, eY]
 all_goals rfl
theorem QbE {R1 l} [H1 : EncL Vo R1 l] : CP T (n + 7) 238 [.imm 5 R1] = (Q7 l).map fun r => .b r := by
 obtain ⟨rfl⟩ := H1
 rw [Qk]
 simp -dsimp +contextual only [↓evA, eZ, Nat.reduceAdd, Nat.reduceMul, Nat.reduceBEq, Nat.reduceLeDiff, Nat.reduceLT, Tryz.func238, Tryz.f238, QxQ, QlV, Qfp]
 try simp only [Q7, eY]
 all_goals rfl
theorem Qdi (i) {R1 l} [H1 : EncL VB R1 l] : LP T (n + 2) 239 2 (frm [(0, .imm 4 R1), (3, .i .i64 i)]) [] =
  X7 (run (Vx l) i) (fun (zr : Bool) => (XE.ret, frm [(2, .b zr)], [])) (fun (zr : Unit) => (XE.exit 0, frm [(0, .imm 4 (l.map VB))], [])) := by
 obtain ⟨rfl⟩ := H1
 rw [QA]
 simp -dsimp only [↓evA, evB, Qm, Tryz.func239, Tryz.f239, Qyd, Ql5, TP, TZ, Nat.reduceAdd, Nat.reduceMul, Nat.reduceBEq, Nat.reduceLeDiff, Nat.reduceLT]
 apply Qq i
 intro i
 simp -dsimp +contextual only [↓evA, eZ, Nat.reduceAdd, Nat.reduceMul, Nat.reduceBEq, Nat.reduceLeDiff, Nat.reduceLT, Xi]
 try simp only [Vx, eY]
 all_goals rfl
theorem QbR {R1 l} [H1 : EncL VB R1 l] : CP T (n + 3) 239 [.imm 4 R1] = (Vw l).map fun r => .b r := by
 obtain ⟨rfl⟩ := H1
 rw [Qk]
 simp -dsimp +contextual only [↓evA, eZ, Nat.reduceAdd, Nat.reduceMul, Nat.reduceBEq, Nat.reduceLeDiff, Nat.reduceLT, Tryz.func239, Tryz.f239, Qyd, Ql5, Qdi]
 try simp only [Vw, eY]
 all_goals rfl
theorem Qhj (a k) {R1 l} [H1 : EncL Vj R1 l] : LP T (n + 1) 270 2 (frm [(0, .imm 1 R1), (1, .i .i64 a), (5, .i .i64 k)]) [] =
  (run (XI l a) k).map (fun (zr : Int) => (XE.exit 0, frm [(0, .imm 1 (l.map Vj)), (1, .i .i64 a), (5, .i .i64 zr)], [])) := by
 obtain ⟨rfl⟩ := H1
 rw [QA]
 simp -dsimp only [↓evA, evB, Qm, Tryz.func270, Tryz.f270, Qxv, Qnb, TP, TZ, Nat.reduceAdd, Nat.reduceMul, Nat.reduceBEq, Nat.reduceLeDiff, Nat.reduceLT]
 apply Qq k
 intro k
 simp -dsimp +contextual only [↓evA, eZ, Nat.reduceAdd, Nat.reduceMul, Nat.reduceBEq, Nat.reduceLeDiff, Nat.reduceLT]
 try simp only [XI, eY]
 try simp only [List.contains_nil, Bool.not_false, Bool.and_true, XX, List.length_append, List.length_cons, List.length_nil, Nat.zero_add, JM, Zf]
 all_goals rfl
theorem Qk2 (a) {R1 l} [H1 : EncL Vj R1 l] : CP T (n + 2) 270 [.imm 1 R1, .i .i64 a] = (Qak l a).map fun r => .own 1 (r.map Vj) := by
 obtain ⟨rfl⟩ := H1
 rw [Qk]
 simp -dsimp +contextual only [↓evA, eZ, Nat.reduceAdd, Nat.reduceMul, Nat.reduceBEq, Nat.reduceLeDiff, Nat.reduceLT, Tryz.func270, Tryz.f270, Qxv, Qnb, Qhj]
 try simp only [Qak, eY]
 try simp only [List.contains_nil, Bool.not_false, Bool.and_true, XX, List.length_append, List.length_cons, List.length_nil, Nat.zero_add, JM, Zf]
 all_goals first | rfl | (simp +contextual only [evN] <;> rfl)
theorem QfG (a i) {R1 l R2 o} [H1 : EncL Vo R1 l] [H2 : EncL Vj R2 o] : LP T (n + 8) 263 3 (frm [(0, .imm 5 R1), (1, .i .i64 a), (5, .sl 0), (6, .i .i64 i)]) [some (Ent.lst 1 R2)] =
  (run (Ja l a) (o, i)).map (fun (zr : (List Int)) => (XE.exit 0, frm [(5, .sl 0)], [some (Ent.lst 1 (zr.map Vj))])) := by
 rcases H1, H2 with ⟨⟨rfl⟩, ⟨rfl⟩⟩
 rw [QA]
 simp -dsimp only [↓evA, evB, Qm, Tryz.func263, Tryz.f263, QxE, Qmd, TP, TZ, Nat.reduceAdd, Nat.reduceMul, Nat.reduceBEq, Nat.reduceLeDiff, Nat.reduceLT]
 apply VV o i
 intro o i
 simp -dsimp +contextual only [↓evA, eZ, Nat.reduceAdd, Nat.reduceMul, Nat.reduceBEq, Nat.reduceLeDiff, Nat.reduceLT, QbE, QdH, Qk2]
 try simp only [Ja, eY]
 all_goals rfl
theorem Qh0 (a) {R1 l} [H1 : EncL Vo R1 l] : CP T (n + 9) 263 [.imm 5 R1, .i .i64 a] = (J6 l a).map fun r => .own 1 (r.map Vj) := by
 obtain ⟨rfl⟩ := H1
 rw [Qk]
 simp -dsimp +contextual only [↓evA, eZ, Nat.reduceAdd, Nat.reduceMul, Nat.reduceBEq, Nat.reduceLeDiff, Nat.reduceLT, Tryz.func263, Tryz.f263, QxE, Qmd, QfG]
 try simp only [J6, eY]
 all_goals first | rfl | (simp +contextual only [evN] <;> rfl)
theorem Qex (i i2) {R1 l} [H1 : EncL VL R1 l] : LP T (n + 1) 195 2 (frm [(0, .imm 8 R1), (1, .i .i64 i), (5, .i .i64 i2)]) [] =
  X7 (run (Xn l i) i2) (fun (zr : Int) => (XE.ret, frm [(4, .i .i64 zr)], [])) (fun (zr : Unit) => (XE.exit 0, frm [], [])) := by
 obtain ⟨rfl⟩ := H1
 rw [QA]
 simp -dsimp only [↓evA, evB, Qm, Tryz.func195, Tryz.f195, Qyr, Qms, TP, TZ, Nat.reduceAdd, Nat.reduceMul, Nat.reduceBEq, Nat.reduceLeDiff, Nat.reduceLT]
 apply Qq i2
 intro i2
 simp -dsimp +contextual only [↓evA, eZ, Nat.reduceAdd, Nat.reduceMul, Nat.reduceBEq, Nat.reduceLeDiff, Nat.reduceLT]
 try simp only [Xn, eY]
 all_goals rfl
theorem QaT (i) {R1 l} [H1 : EncL VL R1 l] : CP T (n + 2) 195 [.imm 8 R1, .i .i64 i] = (X4 l i).map fun r => .i .i64 r := by
 obtain ⟨rfl⟩ := H1
 rw [Qk]
 simp -dsimp +contextual only [↓evA, eZ, Nat.reduceAdd, Nat.reduceMul, Nat.reduceBEq, Nat.reduceLeDiff, Nat.reduceLT, Tryz.func195, Tryz.f195, Qyr, Qms, Qex]
 try simp only [X4, eY]
 all_goals rfl
theorem Qhu (a i) {R1 l} [H1 : EncL Vj R1 l] : LP T (n + 1) 264 2 (frm [(0, .imm 1 R1), (1, .i .i64 a), (5, .i .i64 i)]) [] =
  X7 (run (Zq l a) i) (fun (zr : Bool) => (XE.ret, frm [(4, .b zr)], [])) (fun (zr : Unit) => (XE.exit 0, frm [], [])) := by
 obtain ⟨rfl⟩ := H1
 rw [QA]
 simp -dsimp only [↓evA, evB, Qm, Tryz.func264, Tryz.f264, Qxu, QmE, TP, TZ, Nat.reduceAdd, Nat.reduceMul, Nat.reduceBEq, Nat.reduceLeDiff, Nat.reduceLT]
 apply Qq i
 intro i
 simp -dsimp +contextual only [↓evA, eZ, Nat.reduceAdd, Nat.reduceMul, Nat.reduceBEq, Nat.reduceLeDiff, Nat.reduceLT]
 try simp only [Zq, eY]
 all_goals rfl
theorem Qli (a) {R1 l} [H1 : EncL Vj R1 l] : CP T (n + 2) 264 [.imm 1 R1, .i .i64 a] = (QbA l a).map fun r => .b r := by
 obtain ⟨rfl⟩ := H1
 rw [Qk]
 simp -dsimp +contextual only [↓evA, eZ, Nat.reduceAdd, Nat.reduceMul, Nat.reduceBEq, Nat.reduceLeDiff, Nat.reduceLT, Tryz.func264, Tryz.f264, Qxu, QmE, Qhu]
 try simp only [QbA, eY]
 all_goals rfl
theorem Qeu (i2) {R1 a R2 i} [H1 : EncR Vg R1 a] [H2 : EncL Vj R2 i] : LP T (n + 3) 240 5 (frm [(1, .ptr 0 0 0), (3, .sl 1), (4, .i .i64 i2)]) [some (Ent.box R1), some (Ent.lst 1 R2)] =
  X7 (run (VS a i) i2) (fun (zr : Bool) => (XE.ret, frm [(2, .b zr)], [])) (fun (zr : Unit) => (XE.exit 0, frm [(1, .ptr 0 0 0), (3, .sl 1)], [some (Ent.box (Vg a)), some (Ent.lst 1 (i.map Vj))])) := by
 rcases H1, H2 with ⟨⟨rfl⟩, ⟨rfl⟩⟩
 rw [QA]
 simp -dsimp only [↓evA, evB, Qm, Tryz.func240, Tryz.f240, Qph, Qiz, TP, TZ, Nat.reduceAdd, Nat.reduceMul, Nat.reduceBEq, Nat.reduceLeDiff, Nat.reduceLT]
 apply Qq i2
 intro i2
 simp -dsimp +contextual (maxSteps := 100000000) only [↓evA, eZ, Nat.reduceAdd, Nat.reduceMul, Nat.reduceBEq, Nat.reduceLeDiff, Nat.reduceLT, QaT]
 try simp only [VS, eY]
 all_goals rfl
theorem QdF (i2) {R1 a R2 i} [H1 : EncR Vg R1 a] [H2 : EncL Vj R2 i] : LP T (n + 3) 240 10 (frm [(1, .ptr 0 0 0), (3, .sl 1), (5, .i .i64 i2)]) [some (Ent.box R1), some (Ent.lst 1 R2)] =
  X7 (run (Vz a i) i2) (fun (zr : Bool) => (XE.ret, frm [(2, .b zr)], [])) (fun (zr : Unit) => (XE.exit 2, frm [(1, .ptr 0 0 0)], [some (Ent.box (Vg a))])) := by
 rcases H1, H2 with ⟨⟨rfl⟩, ⟨rfl⟩⟩
 rw [QA]
 simp -dsimp only [↓evA, evB, Qm, Tryz.func240, Tryz.f240, Qph, Qiz, TP, TZ, Nat.reduceAdd, Nat.reduceMul, Nat.reduceBEq, Nat.reduceLeDiff, Nat.reduceLT]
 apply Qq i2
 intro i2
 simp -dsimp +contextual (maxSteps := 100000000) only [↓evA, eZ, Nat.reduceAdd, Nat.reduceMul, Nat.reduceBEq, Nat.reduceLeDiff, Nat.reduceLT, QeK, Qli]
 try simp only [Vz, eY]
 all_goals rfl
theorem QdM (i) {R1 a} [H1 : EncR Vg R1 a] : LP T (n + 3) 240 16 (frm [(1, .ptr 0 0 0), (7, .i .i64 i)]) [some (Ent.box R1)] =
  X7 (run (Q2 a) i) (fun (zr : Bool) => (XE.ret, frm [(2, .b zr)], [])) (fun (zr : Unit) => (XE.exit 4, frm [], [])) := by
 obtain ⟨rfl⟩ := H1
 rw [QA]
 simp -dsimp only [↓evA, evB, Qm, Tryz.func240, Tryz.f240, Qph, Qiz, TP, TZ, Nat.reduceAdd, Nat.reduceMul, Nat.reduceBEq, Nat.reduceLeDiff, Nat.reduceLT]
 apply Qq i
 intro i
 simp -dsimp +contextual (maxSteps := 100000000) only [↓evA, eZ, Nat.reduceAdd, Nat.reduceMul, Nat.reduceBEq, Nat.reduceLeDiff, Nat.reduceLT, QaT]
 try simp only [Q2, eY]
 all_goals rfl
theorem Qgs {R1 a} [H1 : EncR Vg R1 a] : CP T (n + 10) 240 [.agg R1] = (Xm a).map fun r => .b r := by
 obtain ⟨rfl⟩ := H1
 rw [Qk]
 simp -dsimp +contextual (maxSteps := 100000000) only [↓evA, eZ, Nat.reduceAdd, Nat.reduceMul, Nat.reduceBEq, Nat.reduceLeDiff, Nat.reduceLT, Tryz.func240, Tryz.f240, Qph, Qiz, Qh0, Qeu, QdF, QdM]
 try simp only [Xm, eY]
 all_goals rfl
theorem QdN {R1 a} [H1 : EncR Xh R1 a] : CP T (n + 2) 247 [.agg R1] = (J7 a).map fun r => .b r := by
 obtain ⟨rfl⟩ := H1
 rw [Qk]
 simp -dsimp +contextual only [↓evA, eZ, Nat.reduceAdd, Nat.reduceMul, Nat.reduceBEq, Nat.reduceLeDiff, Nat.reduceLT, Tryz.func247, Tryz.f247, QII, Qqd, Xi]
 try simp only [J7, eY]
 all_goals rfl
theorem Qgg (a i) {R1 l} [H1 : EncL Vb R1 l] : LP T (n + 1) 213 2 (frm [(0, .imm 3 R1), (1, .i .i64 a), (5, .i .i64 i)]) [] =
  X7 (run (Jh l a) i) (fun (zr : Int) => (XE.ret, frm [(4, .i .i64 zr)], [])) (fun (zr : Unit) => (XE.exit 0, frm [], [])) := by
 obtain ⟨rfl⟩ := H1
 rw [QA]
 simp -dsimp only [↓evA, evB, Qm, Tryz.func213, Tryz.f213, Qyk, QmC, TP, TZ, Nat.reduceAdd, Nat.reduceMul, Nat.reduceBEq, Nat.reduceLeDiff, Nat.reduceLT]
 apply Qq i
 intro i
 simp -dsimp +contextual only [↓evA, eZ, Nat.reduceAdd, Nat.reduceMul, Nat.reduceBEq, Nat.reduceLeDiff, Nat.reduceLT]
 try simp only [Jh, eY]
 all_goals rfl
theorem Qit (a) {R1 l} [H1 : EncL Vb R1 l] : CP T (n + 2) 213 [.imm 3 R1, .i .i64 a] = (Qbw l a).map fun r => .i .i64 r := by
 obtain ⟨rfl⟩ := H1
 rw [Qk]
 simp -dsimp +contextual only [↓evA, eZ, Nat.reduceAdd, Nat.reduceMul, Nat.reduceBEq, Nat.reduceLeDiff, Nat.reduceLT, Tryz.func213, Tryz.f213, Qyk, QmC, Qgg]
 try simp only [Qbw, eY]
 all_goals rfl
theorem Qh4 (a) {R1 l} [H1 : EncL Vb R1 l] : CP T (n + 3) 152 [.imm 3 R1, .i .i64 a] = (QaD l a).map fun r => .own 2 (r.map VF) := by
 obtain ⟨rfl⟩ := H1
 rw [Qk]
 simp -dsimp +contextual only [↓evA, eZ, Nat.reduceAdd, Nat.reduceMul, Nat.reduceBEq, Nat.reduceLeDiff, Nat.reduceLT, Tryz.func152, Tryz.f152, QG9, Qp0, Qit]
 try simp only [QaD, eY]
 all_goals first | rfl | (simp +contextual only [evN] <;> rfl)
theorem Qor (a b) : CP T (n + 1) 69 [.i .i64 a, .i .i64 b] = (Qge a b).map fun r => .i .i64 r := by
 rw [Qk]
 simp -dsimp +contextual only [↓evA, eZ, Nat.reduceAdd, Nat.reduceMul, Nat.reduceBEq, Nat.reduceLeDiff, Nat.reduceLT, Tryz.func69, Tryz.f69, QL5, Qwp]
 try simp only [Qge, eY]
 all_goals rfl
theorem Qh8 {R1 l} [H1 : EncL VF R1 l] : CP T (n + 2) 249 [.imm 2 R1] = (Qax l).map fun r => .i .i64 r := by
 obtain ⟨rfl⟩ := H1
 rw [Qk]
 simp -dsimp +contextual only [↓evA, eZ, Nat.reduceAdd, Nat.reduceMul, Nat.reduceBEq, Nat.reduceLeDiff, Nat.reduceLT, Tryz.func249, Tryz.f249, QF5, Qp4, Qor]
 try simp only [Qax, eY]
 all_goals rfl
theorem QfX {R1 l R2 a} [H1 : EncL VF R1 l] [H2 : EncR Xh R2 a] : CP T (n + 4) 201 [.imm 2 R1, .agg R2] = (Za l a).map fun r => .i .i64 r := by
 rcases H1, H2 with ⟨⟨rfl⟩, ⟨rfl⟩⟩
 rw [Qk]
 simp -dsimp +contextual only [↓evA, eZ, Nat.reduceAdd, Nat.reduceMul, Nat.reduceBEq, Nat.reduceLeDiff, Nat.reduceLT, Tryz.func201, Tryz.f201, QHZ, Qp1, QdN, Qbs, Qh8]
 try simp only [Za, eY]
 all_goals rfl
theorem Qeq (i) {R1 a} [H1 : EncR Vg R1 a] : LP T (n + 5) 241 4 (frm [(1, .ptr 0 0 0), (3, .i .i64 i)]) [some (Ent.box R1)] =
  X7 (run (Xo a) i) (fun (zr : Bool) => (XE.ret, frm [(2, .b zr)], [])) (fun (zr : Unit) => (XE.exit 0, frm [], [])) := by
 obtain ⟨rfl⟩ := H1
 rw [QA]
 simp -dsimp only [↓evA, evB, Qm, Tryz.func241, Tryz.f241, QxB, QmI, TP, TZ, Nat.reduceAdd, Nat.reduceMul, Nat.reduceBEq, Nat.reduceLeDiff, Nat.reduceLT]
 apply Qq i
 intro i
 simp -dsimp +contextual (maxSteps := 100000000) only [↓evA, eZ, Nat.reduceAdd, Nat.reduceMul, Nat.reduceBEq, Nat.reduceLeDiff, Nat.reduceLT, QaT, QdN, Qh4, QfX]
 try simp only [Xo, eY]
 all_goals rfl
theorem Qgj {R1 a} [H1 : EncR Vg R1 a] : CP T (n + 6) 241 [.agg R1] = (Xl a).map fun r => .b r := by
 obtain ⟨rfl⟩ := H1
 rw [Qk]
 simp -dsimp +contextual (maxSteps := 100000000) only [↓evA, eZ, Nat.reduceAdd, Nat.reduceMul, Nat.reduceBEq, Nat.reduceLeDiff, Nat.reduceLT, Tryz.func241, Tryz.f241, QxB, QmI, Qeq]
 try simp only [Xl, eY]
 all_goals rfl
theorem Qh2 {R1 a} [H1 : EncR Vg R1 a] : CP T (n + 11) 181 [.agg R1] = (Jo a).map fun r => .b r := by
 obtain ⟨rfl⟩ := H1
 rw [Qk]
 simp -dsimp +contextual (maxSteps := 100000000) only [↓evA, eZ, Nat.reduceAdd, Nat.reduceMul, Nat.reduceBEq, Nat.reduceLeDiff, Nat.reduceLT, Tryz.func181, Tryz.f181, QE6, Qo8, Xi, Qhv, QfS, Qda, QaZ, QbE, QbR, Qgs, Qgj]
 try simp only [Jo, eY]
 all_goals rfl
theorem Qem (a i) {R1 l} [H1 : EncL QV R1 l] : LP T (n + 1) 182 3 (frm [(0, .imm 3 R1), (3, .i .i64 a), (4, .i .i64 i)]) [] =
  (run (VP l) (a, i)).map (fun (zr : Int) => (XE.exit 0, frm [(3, .i .i64 zr)], [])) := by
 obtain ⟨rfl⟩ := H1
 rw [QA]
 simp -dsimp only [↓evA, evB, Qm, Tryz.func182, Tryz.f182, QxU, QmT, TP, TZ, Nat.reduceAdd, Nat.reduceMul, Nat.reduceBEq, Nat.reduceLeDiff, Nat.reduceLT]
 apply VV a i
 intro a i
 simp -dsimp +contextual only [↓evA, eZ, Nat.reduceAdd, Nat.reduceMul, Nat.reduceBEq, Nat.reduceLeDiff, Nat.reduceLT]
 try simp only [VP, eY]
 all_goals rfl
end Go.Proofs.YtncpklppoancgaaGreat
