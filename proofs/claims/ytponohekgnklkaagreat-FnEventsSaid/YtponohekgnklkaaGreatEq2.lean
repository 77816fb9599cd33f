import Derived.Test.YtponohekgnklkaaGreatEq1
namespace Go.Proofs.YtponohekgnklkaaGreat
open Go Go.Proofs Go.Proofs.YtponohekgnklkaaGreat.Am
set_option maxHeartbeats 4000000
set_option linter.unusedVariables false
set_option linter.unusedSimpArgs false
set_option linter.defProp false
set_option maxRecDepth 100000
variable (n : Nat)
theorem Qh0 {R1 c} [H1 : EncR QK R1 c] : CA T (n + 8) 41 [some (Ent.box R1)] [.ptr 0 0 0] = (QcK c).map fun r => (.agg [.i .i64 r.2.Kind, .i .i64 r.2.Find.Thing.Id, .i .i64 r.2.Find.Thing.Kind, .i .i64 r.2.Find.Thing.Colour, .i .i64 r.2.Find.Thing.Size, .i .i64 r.2.Find.Thing.Worth, .i .i64 r.2.Find.Place, .i .i64 r.2.Find.At, .i .i64 r.2.Find.Finder, .sl 1, .i .i64 r.2.Id, .i .i64 r.2.Who, .i .i64 r.2.N, .sl 2], [some (Ent.box (QK r.1)), some (Ent.lst 2 (r.2.Marks.map Vp)), some (Ent.lst 3 (r.2.Bids.map Ju))]) := by
 obtain ⟨rfl⟩ := H1
 rw [Qa2]
 simp -dsimp +contextual (maxSteps := 100000000) only [↓evA, eZ, Nat.reduceAdd, Nat.reduceMul, Nat.reduceBEq, Nat.reduceLeDiff, Nat.reduceLT, Tryz.func41, Tryz.f41, QSi, QAo, srt, Xx, Qz, QgK, QnO]
 try simp only [QcK, eY]
 all_goals rfl
theorem Qjr (i) {R1 c R2 l} [H1 : EncR QK R1 c] [H2 : EncL Qcx R2 l] : LP T (n + 9) 18 3 (frm [(0, .ptr 0 0 0), (5, .sl 1), (6, .i .i64 i)]) [some (Ent.box R1), some (Ent.lst 14 R2)] =
  (run ZE (c, l, i)).map (fun (zr : l1Cur × (List Event)) => (XE.exit 0, frm [(0, .ptr 0 0 0), (5, .sl 1)], [some (Ent.box (QK zr.1)), some (Ent.lst 14 (zr.2.map Qcx))])) := by
 rcases H1, H2 with ⟨⟨rfl⟩, ⟨rfl⟩⟩
 rw [Qy]
 simp -dsimp only [↓evA, evB, Qo, Tryz.func18, Tryz.f18, QP0, Qwy, TP, TZ, Nat.reduceAdd, Nat.reduceMul, Nat.reduceBEq, Nat.reduceLeDiff, Nat.reduceLT]
 apply Qcp c l i
 intro c l i
 simp -dsimp +contextual only [↓evA, eZ, Nat.reduceAdd, Nat.reduceMul, Nat.reduceBEq, Nat.reduceLeDiff, Nat.reduceLT, srt, Qh0]
 try simp only [ZE, eY]
 all_goals rfl
theorem Qnk (m) {R1 c} [H1 : EncR QK R1 c] : CA T (n + 10) 18 [some (Ent.box R1)] [.ptr 0 0 0, .i .i64 m] = (Qc8 c m).map fun r => (.sl 1, [some (Ent.box (QK r.1)), some (Ent.lst 14 (r.2.map Qcx))]) := by
 obtain ⟨rfl⟩ := H1
 rw [Qa2]
 simp -dsimp +contextual (maxSteps := 100000000) only [↓evA, eZ, Nat.reduceAdd, Nat.reduceMul, Nat.reduceBEq, Nat.reduceLeDiff, Nat.reduceLT, Tryz.func18, Tryz.f18, QP0, Qwy, srt, QgK, Qz, Qjr]
 try simp only [Qc8, eY]
 all_goals rfl
theorem Qgq {R1 c} [H1 : EncL Qdt R1 c] : CP T (n + 14) 5 [.imm 1 R1] = (Zl c).map fun r => .tup [.agg (VU r.1), .own 14 (r.2.map Qcx)] := by
 obtain ⟨rfl⟩ := H1
 rw [Qf]
 simp -dsimp +contextual only [↓evA, eZ, Nat.reduceAdd, Nat.reduceMul, Nat.reduceBEq, Nat.reduceLeDiff, Nat.reduceLT, Tryz.func5, Tryz.f5, Aa5, An5, srt, QfN, Qlh, Qnk]
 try simp only [Zl, eY]
 try simp only [List.contains_nil, Bool.not_false, Bool.and_true, VK, List.length_append, List.length_cons, List.length_nil, Nat.zero_add, VL, V0]
 all_goals first | rfl | (simp +contextual only [evN] <;> rfl)
theorem Qd1 {R1 s} [H1 : EncL QE R1 s] : CP T (n + 1) 54 [.imm 8 R1] = (XU s).map fun r => .own 8 (r.map QE) := by
 obtain ⟨rfl⟩ := H1
 rw [Qf]
 simp -dsimp +contextual only [↓evA, eZ, Nat.reduceAdd, Nat.reduceMul, Nat.reduceBEq, Nat.reduceLeDiff, Nat.reduceLT, Tryz.func54, Tryz.f54, QRO, QAl]
 try simp only [XU, eY]
 all_goals first | rfl | (simp +contextual only [evN] <;> rfl)
theorem Qac {R1 s} [H1 : EncL Vp R1 s] : CP T (n + 1) 39 [.imm 2 R1] = (VM s).map fun r => .own 2 (r.map Vp) := by
 obtain ⟨rfl⟩ := H1
 rw [Qf]
 simp -dsimp +contextual only [↓evA, eZ, Nat.reduceAdd, Nat.reduceMul, Nat.reduceBEq, Nat.reduceLeDiff, Nat.reduceLT, Tryz.func39, Tryz.f39, QUb, QB3]
 try simp only [VM, eY]
 all_goals first | rfl | (simp +contextual only [evN] <;> rfl)
theorem QfR (a2 a3) {R1 o R2 a} [H1 : EncL QB R1 o] [H2 : EncL Q4 R2 a] : LP T (n + 2) 55 3 (frm [(3, .sl 0), (7, .imm 3 R2), (8, .i .i64 a2), (9, .i .i64 a3)]) [some (Ent.lst 3 R1)] =
  (run (V9 a a2) (o, a3)).map (fun (zr : (List Secret)) => (XE.exit 0, frm [(3, .sl 0)], [some (Ent.lst 3 (zr.map QB))])) := by
 rcases H1, H2 with ⟨⟨rfl⟩, ⟨rfl⟩⟩
 rw [Qy]
 simp -dsimp only [↓evA, evB, Qo, Tryz.func55, Tryz.f55, QIc, Qwx, TP, TZ, Nat.reduceAdd, Nat.reduceMul, Nat.reduceBEq, Nat.reduceLeDiff, Nat.reduceLT]
 apply VS o a3
 intro o a3
 simp -dsimp +contextual only [↓evA, eZ, Nat.reduceAdd, Nat.reduceMul, Nat.reduceBEq, Nat.reduceLeDiff, Nat.reduceLT, Qac]
 try simp only [V9, eY]
 all_goals rfl
theorem QdY {R1 l} [H1 : EncL Q4 R1 l] : CP T (n + 3) 55 [.imm 3 R1] = (XS l).map fun r => .own 3 (r.map QB) := by
 obtain ⟨rfl⟩ := H1
 rw [Qf]
 simp -dsimp +contextual only [↓evA, eZ, Nat.reduceAdd, Nat.reduceMul, Nat.reduceBEq, Nat.reduceLeDiff, Nat.reduceLT, Tryz.func55, Tryz.f55, QIc, Qwx, QfR]
 try simp only [XS, eY]
 all_goals first | rfl | (simp +contextual only [evN] <;> rfl)
theorem Qch {R1 s} [H1 : EncL QX R1 s] : CP T (n + 1) 56 [.imm 3 R1] = (Xd s).map fun r => .own 3 (r.map QX) := by
 obtain ⟨rfl⟩ := H1
 rw [Qf]
 simp -dsimp +contextual only [↓evA, eZ, Nat.reduceAdd, Nat.reduceMul, Nat.reduceBEq, Nat.reduceLeDiff, Nat.reduceLT, Tryz.func56, Tryz.f56, QUd, QCJ]
 try simp only [Xd, eY]
 all_goals first | rfl | (simp +contextual only [evN] <;> rfl)
theorem QbE {R1 s} [H1 : EncL Qj R1 s] : CP T (n + 1) 57 [.imm 5 R1] = (Vr s).map fun r => .own 5 (r.map Qj) := by
 obtain ⟨rfl⟩ := H1
 rw [Qf]
 simp -dsimp +contextual only [↓evA, eZ, Nat.reduceAdd, Nat.reduceMul, Nat.reduceBEq, Nat.reduceLeDiff, Nat.reduceLT, Tryz.func57, Tryz.f57, QUi, QAy]
 try simp only [Vr, eY]
 all_goals first | rfl | (simp +contextual only [evN] <;> rfl)
theorem QgX {R1 s} [H1 : EncL QS R1 s] : CP T (n + 1) 58 [.imm 4 R1] = (QaU s).map fun r => .own 4 (r.map QS) := by
 obtain ⟨rfl⟩ := H1
 rw [Qf]
 simp -dsimp +contextual only [↓evA, eZ, Nat.reduceAdd, Nat.reduceMul, Nat.reduceBEq, Nat.reduceLeDiff, Nat.reduceLT, Tryz.func58, Tryz.f58, QQu, QB0]
 try simp only [QaU, eY]
 all_goals first | rfl | (simp +contextual only [evN] <;> rfl)
theorem Qd2 {R1 s} [H1 : EncL Vv R1 s] : CP T (n + 1) 59 [.imm 5 R1] = (VZ s).map fun r => .own 5 (r.map Vv) := by
 obtain ⟨rfl⟩ := H1
 rw [Qf]
 simp -dsimp +contextual only [↓evA, eZ, Nat.reduceAdd, Nat.reduceMul, Nat.reduceBEq, Nat.reduceLeDiff, Nat.reduceLT, Tryz.func59, Tryz.f59, QUR, QAq]
 try simp only [VZ, eY]
 all_goals first | rfl | (simp +contextual only [evN] <;> rfl)
theorem QdN {R1 s} [H1 : EncL Vk R1 s] : CP T (n + 1) 60 [.imm 4 R1] = (XD s).map fun r => .own 4 (r.map Vk) := by
 obtain ⟨rfl⟩ := H1
 rw [Qf]
 simp -dsimp +contextual only [↓evA, eZ, Nat.reduceAdd, Nat.reduceMul, Nat.reduceBEq, Nat.reduceLeDiff, Nat.reduceLT, Tryz.func60, Tryz.f60, QRj, Qz8]
 try simp only [XD, eY]
 all_goals first | rfl | (simp +contextual only [evN] <;> rfl)
theorem Ve {R1 a} [H1 : EncR QV R1 a] : CP T (n + 4) 19 [.agg R1] = (QO a).map fun r => .agg (VU r) := by
 obtain ⟨rfl⟩ := H1
 rw [Qf]
 simp -dsimp +contextual (maxSteps := 100000000) only [↓evA, eZ, Nat.reduceAdd, Nat.reduceMul, Nat.reduceBEq, Nat.reduceLeDiff, Nat.reduceLT, Tryz.func19, Tryz.f19, QRM, QCQ, Qd1, QdY, Qch, QbE, QgX, Qd2, QdN]
 try simp only [QO, eY]
 all_goals rfl
theorem Qih (c) {R1 f} [H1 : EncR QE R1 f] : CP T (n + 1) 119 [.agg R1, .iptr 1 [[.i .i64 c]] 0 0] = (Qb0 f c).map fun r => .b r := by
 obtain ⟨rfl⟩ := H1
 rw [Qf]
 simp -dsimp +contextual only [↓evA, eZ, Nat.reduceAdd, Nat.reduceMul, Nat.reduceBEq, Nat.reduceLeDiff, Nat.reduceLT, Tryz.func119, Tryz.f119, QQj, QtY]
 try simp only [Qb0, eY]
 all_goals rfl
theorem Qag (f a a2) {R1 s} [H1 : EncL QE R1 s] : LP T (n + 2) 118 2 (frm [(0, .imm 8 R1), (1, .clo 119 [.iptr 1 [[.i .i64 f]] 0 0]), (7, .i .i64 a), (8, .i .i64 a2)]) [] =
  Jd (run (QC s f a) a2) (fun (zr : Int) => (XE.ret, frm [(4, .i .i64 zr)], [])) (fun (zr : Unit) => (XE.exit 0, frm [], [])) := by
 obtain ⟨rfl⟩ := H1
 rw [Qy]
 simp -dsimp only [↓evA, evB, Qo, Tryz.func118, Tryz.f118, QEa, Qp2, TP, TZ, Nat.reduceAdd, Nat.reduceMul, Nat.reduceBEq, Nat.reduceLeDiff, Nat.reduceLT]
 apply Qs a2
 intro a2
 simp -dsimp +contextual only [↓evA, eZ, Nat.reduceAdd, Nat.reduceMul, Nat.reduceBEq, Nat.reduceLeDiff, Nat.reduceLT, Qih]
 try simp only [QC, eY]
 all_goals rfl
theorem QaW (c) {R1 s} [H1 : EncL QE R1 s] : CP T (n + 3) 118 [.imm 8 R1, .clo 119 [.iptr 1 [[.i .i64 c]] 0 0]] = (Vx s c).map fun r => .i .i64 r := by
 obtain ⟨rfl⟩ := H1
 rw [Qf]
 simp -dsimp +contextual only [↓evA, eZ, Nat.reduceAdd, Nat.reduceMul, Nat.reduceBEq, Nat.reduceLeDiff, Nat.reduceLT, Tryz.func118, Tryz.f118, QEa, Qp2, Qag]
 try simp only [Vx, eY]
 all_goals rfl
theorem Qar (i) {R1 l} [H1 : EncL QE R1 l] : CP T (n + 4) 69 [.imm 8 R1, .i .i64 i] = (XN l i).map fun r => .i .i64 r := by
 obtain ⟨rfl⟩ := H1
 rw [Qf]
 simp -dsimp +contextual only [↓evA, eZ, Nat.reduceAdd, Nat.reduceMul, Nat.reduceBEq, Nat.reduceLeDiff, Nat.reduceLT, Tryz.func69, Tryz.f69, QUC, QAh, QaW]
 try simp only [XN, eY]
 all_goals rfl
theorem Q3 (a l a2) : CP T (n + 1) 20 [.i .i64 a, .i .i64 l, .i .i64 a2] = (Qb a l a2).map fun r => .b r := by
 rw [Qf]
 simp -dsimp +contextual only [↓evA, eZ, Nat.reduceAdd, Nat.reduceMul, Nat.reduceBEq, Nat.reduceLeDiff, Nat.reduceLT, Tryz.func20, Tryz.f20, QQx, QBl]
 try simp only [Qb, eY]
 all_goals rfl
theorem Qej {R1 a} [H1 : EncR Qbm R1 a] : CP T (n + 2) 112 [.agg R1] = (ZQ a).map fun r => .b r := by
 obtain ⟨rfl⟩ := H1
 rw [Qf]
 simp -dsimp +contextual only [↓evA, eZ, Nat.reduceAdd, Nat.reduceMul, Nat.reduceBEq, Nat.reduceLeDiff, Nat.reduceLT, Tryz.func112, Tryz.f112, QPn, QuQ, Q3]
 try simp only [ZQ, eY]
 all_goals rfl
theorem Qe7 {R1 f} [H1 : EncR QE R1 f] : CP T (n + 3) 61 [.agg R1] = (QaB f).map fun r => .b r := by
 obtain ⟨rfl⟩ := H1
 rw [Qf]
 simp -dsimp +contextual only [↓evA, eZ, Nat.reduceAdd, Nat.reduceMul, Nat.reduceBEq, Nat.reduceLeDiff, Nat.reduceLT, Tryz.func61, Tryz.f61, QRs, QAN, Qej, Q3]
 try simp only [QaB, eY]
 all_goals rfl
theorem Qik (a2 a3) {R1 l R2 a} [H1 : EncL QE R1 l] [H2 : EncL QE R2 a] : LP T (n + 4) 21 4 (frm [(0, .imm 8 R1), (8, .imm 8 R2), (9, .i .i64 a2), (10, .i .i64 a3)]) [] =
  Jd (run (J9 l a a2) a3) (fun (zr : Bool) => (XE.ret, frm [(2, .b zr)], [])) (fun (zr : Unit) => (XE.exit 0, frm [], [])) := by
 rcases H1, H2 with ⟨⟨rfl⟩, ⟨rfl⟩⟩
 rw [Qy]
 simp -dsimp only [↓evA, evB, Qo, Tryz.func21, Tryz.f21, QKi, Qyt, TP, TZ, Nat.reduceAdd, Nat.reduceMul, Nat.reduceBEq, Nat.reduceLeDiff, Nat.reduceLT]
 apply Qs a3
 intro a3
 simp -dsimp +contextual only [↓evA, eZ, Nat.reduceAdd, Nat.reduceMul, Nat.reduceBEq, Nat.reduceLeDiff, Nat.reduceLT, Qe7]
 try simp only [J9, eY]
 all_goals rfl
theorem Qf7 {R1 l} [H1 : EncL QE R1 l] : CP T (n + 5) 21 [.imm 8 R1] = (Z4 l).map fun r => .b r := by
 obtain ⟨rfl⟩ := H1
 rw [Qf]
 simp -dsimp +contextual only [↓evA, eZ, Nat.reduceAdd, Nat.reduceMul, Nat.reduceBEq, Nat.reduceLeDiff, Nat.reduceLT, Tryz.func21, Tryz.f21, QKi, Qyt, Qik]
 try simp only [Z4, eY]
 all_goals rfl
theorem QjF (a) {R1 l R2 f R3 o} [H1 : EncL QE R1 l] [H2 : EncR QE R2 f] [H3 : EncL QE R3 o] : LP T (n + 1) 90 5 (frm [(0, .imm 8 R1), (3, .ptr 0 0 0), (6, .sl 1), (7, .i .i64 a)]) [some (Ent.box R2), some (Ent.lst 8 R3)] =
  (run (Qcw l f o) a).map (fun (zr : Int) => (XE.exit 0, frm [(0, .imm 8 (l.map QE)), (3, .ptr 0 0 0), (6, .sl 1), (7, .i .i64 zr)], [some (Ent.box (QE f)), some (Ent.lst 8 (o.map QE))])) := by
 rcases H1, H2, H3 with ⟨⟨rfl⟩, ⟨rfl⟩, ⟨rfl⟩⟩
 rw [Qy]
 simp -dsimp only [↓evA, evB, Qo, Tryz.func90, Tryz.f90, QKz, QyE, TP, TZ, Nat.reduceAdd, Nat.reduceMul, Nat.reduceBEq, Nat.reduceLeDiff, Nat.reduceLT]
 apply Qs a
 intro a
 simp -dsimp +contextual only [↓evA, eZ, Nat.reduceAdd, Nat.reduceMul, Nat.reduceBEq, Nat.reduceLeDiff, Nat.reduceLT, srt]
 try simp only [Qcw, eY]
 all_goals rfl
theorem QmK {R1 l R2 f} [H1 : EncL QE R1 l] [H2 : EncR QE R2 f] : CP T (n + 6) 90 [.imm 8 R1, .agg R2] = (QcZ l f).map fun r => .tup [.own 8 (r.1.map QE), .b r.2] := by
 rcases H1, H2 with ⟨⟨rfl⟩, ⟨rfl⟩⟩
 rw [Qf]
 simp -dsimp +contextual only [↓evA, eZ, Nat.reduceAdd, Nat.reduceMul, Nat.reduceBEq, Nat.reduceLeDiff, Nat.reduceLT, Tryz.func90, Tryz.f90, QKz, QyE, srt, Qd1, Qar, QBa, Qf7, QjF]
 try simp only [QcZ, eY]
 all_goals first | rfl | (simp +contextual only [evN] <;> rfl)
theorem QjH (c) {R1 a} [H1 : EncR Q4 R1 a] : CP T (n + 1) 177 [.agg R1, .iptr 1 [[.i .i64 c]] 0 0] = (Qa8 a c).map fun r => .b r := by
 obtain ⟨rfl⟩ := H1
 rw [Qf]
 simp -dsimp +contextual only [↓evA, eZ, Nat.reduceAdd, Nat.reduceMul, Nat.reduceBEq, Nat.reduceLeDiff, Nat.reduceLT, Tryz.func177, Tryz.f177, QN6, QuN]
 try simp only [Qa8, eY]
 all_goals rfl
theorem Z8 (f a a2) {R1 s} [H1 : EncL Q4 R1 s] : LP T (n + 2) 176 2 (frm [(0, .imm 3 R1), (1, .clo 177 [.iptr 1 [[.i .i64 f]] 0 0]), (7, .i .i64 a), (8, .i .i64 a2)]) [] =
  Jd (run (Qm s f a) a2) (fun (zr : Int) => (XE.ret, frm [(4, .i .i64 zr)], [])) (fun (zr : Unit) => (XE.exit 0, frm [], [])) := by
 obtain ⟨rfl⟩ := H1
 rw [Qy]
 simp -dsimp only [↓evA, evB, Qo, Tryz.func176, Tryz.f176, QDa, Qqa, TP, TZ, Nat.reduceAdd, Nat.reduceMul, Nat.reduceBEq, Nat.reduceLeDiff, Nat.reduceLT]
 apply Qs a2
 intro a2
 simp -dsimp +contextual only [↓evA, eZ, Nat.reduceAdd, Nat.reduceMul, Nat.reduceBEq, Nat.reduceLeDiff, Nat.reduceLT, QjH]
 try simp only [Qm, eY]
 all_goals rfl
theorem QaO (c) {R1 s} [H1 : EncL Q4 R1 s] : CP T (n + 3) 176 [.imm 3 R1, .clo 177 [.iptr 1 [[.i .i64 c]] 0 0]] = (QZ s c).map fun r => .i .i64 r := by
 obtain ⟨rfl⟩ := H1
 rw [Qf]
 simp -dsimp +contextual only [↓evA, eZ, Nat.reduceAdd, Nat.reduceMul, Nat.reduceBEq, Nat.reduceLeDiff, Nat.reduceLT, Tryz.func176, Tryz.f176, QDa, Qqa, Z8]
 try simp only [QZ, eY]
 all_goals rfl
theorem Qf6 (a) {R1 l} [H1 : EncL Q4 R1 l] : CP T (n + 4) 121 [.imm 3 R1, .i .i64 a] = (JX l a).map fun r => .i .i64 r := by
 obtain ⟨rfl⟩ := H1
 rw [Qf]
 simp -dsimp +contextual only [↓evA, eZ, Nat.reduceAdd, Nat.reduceMul, Nat.reduceBEq, Nat.reduceLeDiff, Nat.reduceLT, Tryz.func121, Tryz.f121, QKj, QtR, QaO]
 try simp only [JX, eY]
 all_goals rfl
theorem Qh8 (a2 a3) {R1 l R2 a} [H1 : EncL Vp R1 l] [H2 : EncL Vp R2 a] : LP T (n + 2) 62 4 (frm [(0, .imm 2 R1), (8, .imm 2 R2), (9, .i .i64 a2), (10, .i .i64 a3)]) [] =
  Jd (run (Zh l a a2) a3) (fun (zr : Bool) => (XE.ret, frm [(2, .b zr)], [])) (fun (zr : Unit) => (XE.exit 0, frm [], [])) := by
 rcases H1, H2 with ⟨⟨rfl⟩, ⟨rfl⟩⟩
 rw [Qy]
 simp -dsimp only [↓evA, evB, Qo, Tryz.func62, Tryz.f62, QHW, QwY, TP, TZ, Nat.reduceAdd, Nat.reduceMul, Nat.reduceBEq, Nat.reduceLeDiff, Nat.reduceLT]
 apply Qs a3
 intro a3
 simp -dsimp +contextual only [↓evA, eZ, Nat.reduceAdd, Nat.reduceMul, Nat.reduceBEq, Nat.reduceLeDiff, Nat.reduceLT, Q3]
 try simp only [Zh, eY]
 all_goals rfl
theorem QdV {R1 l} [H1 : EncL Vp R1 l] : CP T (n + 3) 62 [.imm 2 R1] = (Z5 l).map fun r => .b r := by
 obtain ⟨rfl⟩ := H1
 rw [Qf]
 simp -dsimp +contextual only [↓evA, eZ, Nat.reduceAdd, Nat.reduceMul, Nat.reduceBEq, Nat.reduceLeDiff, Nat.reduceLT, Tryz.func62, Tryz.f62, QHW, QwY, Qh8]
 try simp only [Z5, eY]
 all_goals rfl
theorem Qgx (a2 a3) {R1 l R2 a} [H1 : EncL Q4 R1 l] [H2 : EncL Q4 R2 a] : LP T (n + 4) 22 4 (frm [(0, .imm 3 R1), (8, .imm 3 R2), (9, .i .i64 a2), (10, .i .i64 a3)]) [] =
  Jd (run (X6 l a a2) a3) (fun (zr : Bool) => (XE.ret, frm [(2, .b zr)], [])) (fun (zr : Unit) => (XE.exit 0, frm [], [])) := by
 rcases H1, H2 with ⟨⟨rfl⟩, ⟨rfl⟩⟩
 rw [Qy]
 simp -dsimp only [↓evA, evB, Qo, Tryz.func22, Tryz.f22, QI8, Qy2, TP, TZ, Nat.reduceAdd, Nat.reduceMul, Nat.reduceBEq, Nat.reduceLeDiff, Nat.reduceLT]
 apply Qs a3
 intro a3
 simp -dsimp +contextual only [↓evA, eZ, Nat.reduceAdd, Nat.reduceMul, Nat.reduceBEq, Nat.reduceLeDiff, Nat.reduceLT, Q3, QdV]
 try simp only [X6, eY]
 all_goals rfl
theorem QeP {R1 l} [H1 : EncL Q4 R1 l] : CP T (n + 5) 22 [.imm 3 R1] = (JG l).map fun r => .b r := by
 obtain ⟨rfl⟩ := H1
 rw [Qf]
 simp -dsimp +contextual only [↓evA, eZ, Nat.reduceAdd, Nat.reduceMul, Nat.reduceBEq, Nat.reduceLeDiff, Nat.reduceLT, Tryz.func22, Tryz.f22, QI8, Qy2, Qgx]
 try simp only [JG, eY]
 all_goals rfl
theorem QhD (a2) {R1 l R2 a R3 o} [H1 : EncL Q4 R1 l] [H2 : EncR Q4 R2 a] [H3 : EncL QB R3 o] : LP T (n + 1) 91 5 (frm [(0, .imm 3 R1), (3, .ptr 0 0 0), (6, .sl 1), (7, .i .i64 a2)]) [some (Ent.box R2), some (Ent.lst 3 R3)] =
  (run (Qbq l a o) a2).map (fun (zr : Int) => (XE.exit 0, frm [(0, .imm 3 (l.map Q4)), (3, .ptr 0 0 0), (6, .sl 1), (7, .i .i64 zr)], [some (Ent.box (Q4 a)), some (Ent.lst 3 (o.map QB))])) := by
 rcases H1, H2, H3 with ⟨⟨rfl⟩, ⟨rfl⟩, ⟨rfl⟩⟩
 rw [Qy]
 simp -dsimp only [↓evA, evB, Qo, Tryz.func91, Tryz.f91, QOO, QzS, TP, TZ, Nat.reduceAdd, Nat.reduceMul, Nat.reduceBEq, Nat.reduceLeDiff, Nat.reduceLT]
 apply Qs a2
 intro a2
 simp -dsimp +contextual only [↓evA, eZ, Nat.reduceAdd, Nat.reduceMul, Nat.reduceBEq, Nat.reduceLeDiff, Nat.reduceLT, srt]
 try simp only [Qbq, eY]
 all_goals rfl
theorem Qki {R1 l R2 a} [H1 : EncL Q4 R1 l] [H2 : EncR Q4 R2 a] : CP T (n + 6) 91 [.imm 3 R1, .agg R2] = (QbB l a).map fun r => .tup [.own 3 (r.1.map QB), .b r.2] := by
 rcases H1, H2 with ⟨⟨rfl⟩, ⟨rfl⟩⟩
 rw [Qf]
 simp -dsimp +contextual only [↓evA, eZ, Nat.reduceAdd, Nat.reduceMul, Nat.reduceBEq, Nat.reduceLeDiff, Nat.reduceLT, Tryz.func91, Tryz.f91, QOO, QzS, srt, QdY, Qf6, Qac, QBz, QeP, QhD]
 try simp only [QbB, eY]
 all_goals first | rfl | (simp +contextual only [evN] <;> rfl)
theorem QiR (s b a2 a3) {R1 l R2 a} [H1 : EncL QX R1 l] [H2 : EncL QX R2 a] : LP T (n + 1) 147 3 (frm [(0, .imm 3 R1), (1, .i .i64 s), (5, .i .i64 b), (8, .imm 3 R2), (9, .i .i64 a2), (10, .i .i64 a3)]) [] =
  (run (QaX l s a a2) (b, a3)).map (fun (zr : Int) => (XE.exit 0, frm [(5, .i .i64 zr)], [])) := by
 rcases H1, H2 with ⟨⟨rfl⟩, ⟨rfl⟩⟩
 rw [Qy]
 simp -dsimp only [↓evA, evB, Qo, Tryz.func147, Tryz.f147, QDr, QrE, TP, TZ, Nat.reduceAdd, Nat.reduceMul, Nat.reduceBEq, Nat.reduceLeDiff, Nat.reduceLT]
 apply VS b a3
 intro b a3
 simp -dsimp +contextual only [↓evA, eZ, Nat.reduceAdd, Nat.reduceMul, Nat.reduceBEq, Nat.reduceLeDiff, Nat.reduceLT]
 try simp only [QaX, eY]
 all_goals rfl
theorem Qnu (s) {R1 l} [H1 : EncL QX R1 l] : CP T (n + 2) 147 [.imm 3 R1, .i .i64 s] = (Qc5 l s).map fun r => .i .i64 r := by
 obtain ⟨rfl⟩ := H1
 rw [Qf]
 simp -dsimp +contextual only [↓evA, eZ, Nat.reduceAdd, Nat.reduceMul, Nat.reduceBEq, Nat.reduceLeDiff, Nat.reduceLT, Tryz.func147, Tryz.f147, QDr, QrE, QiR]
 try simp only [Qc5, eY]
 all_goals rfl
theorem QiP (c) {R1 a} [H1 : EncR QX R1 a] : CP T (n + 1) 116 [.agg R1, .iptr 1 [[.i .i64 c]] 0 0] = (QcB a c).map fun r => .b r := by
 obtain ⟨rfl⟩ := H1
 rw [Qf]
 simp -dsimp +contextual only [↓evA, eZ, Nat.reduceAdd, Nat.reduceMul, Nat.reduceBEq, Nat.reduceLeDiff, Nat.reduceLT, Tryz.func116, Tryz.f116, QIr, QuJ]
 try simp only [QcB, eY]
 all_goals rfl
theorem QaA (f a a2) {R1 s} [H1 : EncL QX R1 s] : LP T (n + 2) 115 2 (frm [(0, .imm 3 R1), (1, .clo 116 [.iptr 1 [[.i .i64 f]] 0 0]), (7, .i .i64 a), (8, .i .i64 a2)]) [] =
  Jd (run (QF s f a) a2) (fun (zr : Int) => (XE.ret, frm [(4, .i .i64 zr)], [])) (fun (zr : Unit) => (XE.exit 0, frm [], [])) := by
 obtain ⟨rfl⟩ := H1
 rw [Qy]
 simp -dsimp only [↓evA, evB, Qo, Tryz.func115, Tryz.f115, QDu, Qq2, TP, TZ, Nat.reduceAdd, Nat.reduceMul, Nat.reduceBEq, Nat.reduceLeDiff, Nat.reduceLT]
 apply Qs a2
 intro a2
 simp -dsimp +contextual only [↓evA, eZ, Nat.reduceAdd, Nat.reduceMul, Nat.reduceBEq, Nat.reduceLeDiff, Nat.reduceLT, QiP]
 try simp only [QF, eY]
 all_goals rfl
theorem Qbp (c) {R1 s} [H1 : EncL QX R1 s] : CP T (n + 3) 115 [.imm 3 R1, .clo 116 [.iptr 1 [[.i .i64 c]] 0 0]] = (Vz s c).map fun r => .i .i64 r := by
 obtain ⟨rfl⟩ := H1
 rw [Qf]
 simp -dsimp +contextual only [↓evA, eZ, Nat.reduceAdd, Nat.reduceMul, Nat.reduceBEq, Nat.reduceLeDiff, Nat.reduceLT, Tryz.func115, Tryz.f115, QDu, Qq2, QaA]
 try simp only [Vz, eY]
 all_goals rfl
theorem ZJ (a) {R1 l} [H1 : EncL QX R1 l] : CP T (n + 4) 67 [.imm 3 R1, .i .i64 a] = (Xn l a).map fun r => .i .i64 r := by
 obtain ⟨rfl⟩ := H1
 rw [Qf]
 simp -dsimp +contextual only [↓evA, eZ, Nat.reduceAdd, Nat.reduceMul, Nat.reduceBEq, Nat.reduceLeDiff, Nat.reduceLT, Tryz.func67, Tryz.f67, QVQ, QAI, Qbp]
 try simp only [Xn, eY]
 all_goals rfl
theorem QnQ (a) {R1 l} [H1 : EncL QX R1 l] : CP T (n + 5) 63 [.imm 3 R1, .i .i64 a] = (QcM l a).map fun r => .i .i64 r := by
 obtain ⟨rfl⟩ := H1
 rw [Qf]
 simp -dsimp +contextual only [↓evA, eZ, Nat.reduceAdd, Nat.reduceMul, Nat.reduceBEq, Nat.reduceLeDiff, Nat.reduceLT, Tryz.func63, Tryz.f63, QSz, QBE, ZJ]
 try simp only [QcM, eY]
 all_goals rfl
theorem QiB (a2 a3) {R1 l R2 a} [H1 : EncL QX R1 l] [H2 : EncL QX R2 a] : LP T (n + 6) 23 4 (frm [(0, .imm 3 R1), (8, .imm 3 R2), (9, .i .i64 a2), (10, .i .i64 a3)]) [] =
  Jd (run (Zj l a a2) a3) (fun (zr : Bool) => (XE.ret, frm [(2, .b zr)], [])) (fun (zr : Unit) => (XE.exit 0, frm [], [])) := by
 rcases H1, H2 with ⟨⟨rfl⟩, ⟨rfl⟩⟩
 rw [Qy]
 simp -dsimp only [↓evA, evB, Qo, Tryz.func23, Tryz.f23, QPP, Qxb, TP, TZ, Nat.reduceAdd, Nat.reduceMul, Nat.reduceBEq, Nat.reduceLeDiff, Nat.reduceLT]
 apply Qs a3
 intro a3
 simp -dsimp +contextual only [↓evA, eZ, Nat.reduceAdd, Nat.reduceMul, Nat.reduceBEq, Nat.reduceLeDiff, Nat.reduceLT, Q3, QnQ]
 try simp only [Zj, eY]
 all_goals rfl
theorem QdT {R1 l} [H1 : EncL QX R1 l] : CP T (n + 7) 23 [.imm 3 R1] = (JW l).map fun r => .b r := by
 obtain ⟨rfl⟩ := H1
 rw [Qf]
 simp -dsimp +contextual only [↓evA, eZ, Nat.reduceAdd, Nat.reduceMul, Nat.reduceBEq, Nat.reduceLeDiff, Nat.reduceLT, Tryz.func23, Tryz.f23, QPP, Qxb, QiB]
 try simp only [JW, eY]
 all_goals rfl
theorem Qnd {R1 l R2 a} [H1 : EncL QX R1 l] [H2 : EncR Qbm R2 a] : CP T (n + 8) 92 [.imm 3 R1, .agg R2] = (QbO l a).map fun r => .tup [.own 3 (r.1.map QX), .b r.2] := by
 rcases H1, H2 with ⟨⟨rfl⟩, ⟨rfl⟩⟩
 rw [Qf]
 simp -dsimp +contextual only [↓evA, eZ, Nat.reduceAdd, Nat.reduceMul, Nat.reduceBEq, Nat.reduceLeDiff, Nat.reduceLT, Tryz.func92, Tryz.f92, QS9, QB4, Qch, Qnu, QdT, Qej, ZJ]
 try simp only [QbO, eY]
 all_goals first | rfl | (simp +contextual only [evN] <;> rfl)
theorem QrZ (p q) : CP T (n + 2) 213 [.i .i64 p, .i .i64 q] = (Qc7 p q).map fun r => .i .i64 r := by
 rw [Qf]
 simp -dsimp +contextual only [↓evA, eZ, Nat.reduceAdd, Nat.reduceMul, Nat.reduceBEq, Nat.reduceLeDiff, Nat.reduceLT, Tryz.func213, Tryz.f213, QM7, Qtl, Q3]
 try simp only [Qc7, eY]
 all_goals rfl
theorem Qp4 (a v) : CP T (n + 3) 173 [.i .i64 a, .i .i64 v] = (Qhc a v).map fun r => .i .i64 r := by
 rw [Qf]
 simp -dsimp +contextual only [↓evA, eZ, Nat.reduceAdd, Nat.reduceMul, Nat.reduceBEq, Nat.reduceLeDiff, Nat.reduceLT, Tryz.func173, Tryz.f173, QJr, Quz, QrZ]
 try simp only [Qhc, eY]
 all_goals rfl
theorem Qnt (a a3 a4) {R1 a2} [H1 : EncL VP R1 a2] : LP T (n + 4) 113 3 (frm [(3, .i .i64 a), (6, .imm 1 R1), (7, .i .i64 a3), (8, .i .i64 a4)]) [] =
  (run (Qdb a2 a3) (a, a4)).map (fun (zr : Int) => (XE.exit 0, frm [(3, .i .i64 zr)], [])) := by
 obtain ⟨rfl⟩ := H1
 rw [Qy]
 simp -dsimp only [↓evA, evB, Qo, Tryz.func113, Tryz.f113, QEh, QqL, TP, TZ, Nat.reduceAdd, Nat.reduceMul, Nat.reduceBEq, Nat.reduceLeDiff, Nat.reduceLT]
 apply VS a a4
 intro a a4
 simp -dsimp +contextual only [↓evA, eZ, Nat.reduceAdd, Nat.reduceMul, Nat.reduceBEq, Nat.reduceLeDiff, Nat.reduceLT, Qp4]
 try simp only [Qdb, eY]
 all_goals rfl
theorem QkY {R1 v} [H1 : EncL VP R1 v] : CP T (n + 5) 113 [.imm 1 R1] = (Qdo v).map fun r => .i .i64 r := by
 obtain ⟨rfl⟩ := H1
 rw [Qf]
 simp -dsimp +contextual only [↓evA, eZ, Nat.reduceAdd, Nat.reduceMul, Nat.reduceBEq, Nat.reduceLeDiff, Nat.reduceLT, Tryz.func113, Tryz.f113, QEh, QqL, Qnt]
 try simp only [Qdo, eY]
 all_goals rfl
theorem Qf5 (b) {R1 a} [H1 : EncR Vv R1 a] : CP T (n + 6) 64 [.i .i64 b, .agg R1] = (Jh b a).map fun r => .i .i64 r := by
 obtain ⟨rfl⟩ := H1
 rw [Qf]
 simp -dsimp +contextual only [↓evA, eZ, Nat.reduceAdd, Nat.reduceMul, Nat.reduceBEq, Nat.reduceLeDiff, Nat.reduceLT, Tryz.func64, Tryz.f64, QSG, Qz5, QkY]
 try simp only [Jh, eY]
 all_goals rfl
theorem Qis (a i) {R1 l} [H1 : EncL Vv R1 l] : LP T (n + 1) 65 2 (frm [(0, .imm 5 R1), (1, .i .i64 a), (5, .i .i64 i)]) [] =
  Jd (run (Qau l a) i) (fun (zr : Int) => (XE.ret, frm [(4, .i .i64 zr)], [])) (fun (zr : Unit) => (XE.exit 0, frm [], [])) := by
 obtain ⟨rfl⟩ := H1
 rw [Qy]
 simp -dsimp only [↓evA, evB, Qo, Tryz.func65, Tryz.f65, QPH, QwJ, TP, TZ, Nat.reduceAdd, Nat.reduceMul, Nat.reduceBEq, Nat.reduceLeDiff, Nat.reduceLT]
 apply Qs i
 intro i
 simp -dsimp +contextual only [↓evA, eZ, Nat.reduceAdd, Nat.reduceMul, Nat.reduceBEq, Nat.reduceLeDiff, Nat.reduceLT]
 try simp only [Qau, eY]
 all_goals rfl
theorem Qf0 (a) {R1 l} [H1 : EncL Vv R1 l] : CP T (n + 2) 65 [.imm 5 R1, .i .i64 a] = (Z2 l a).map fun r => .i .i64 r := by
 obtain ⟨rfl⟩ := H1
 rw [Qf]
 simp -dsimp +contextual only [↓evA, eZ, Nat.reduceAdd, Nat.reduceMul, Nat.reduceBEq, Nat.reduceLeDiff, Nat.reduceLT, Tryz.func65, Tryz.f65, QPH, QwJ, Qis]
 try simp only [Z2, eY]
 all_goals rfl
theorem Qjg (a a3 a4) {R1 l R2 a2} [H1 : EncL Vv R1 l] [H2 : EncL Vv R2 a2] : LP T (n + 7) 25 5 (frm [(0, .imm 5 R1), (3, .i .i64 a), (10, .imm 5 R2), (11, .i .i64 a3), (12, .i .i64 a4)]) [] =
  Jd (run (JE l a2 a3) (a, a4)) (fun (zr : Bool) => (XE.ret, frm [(2, .b zr)], [])) (fun (zr : Unit) => (XE.exit 0, frm [], [])) := by
 rcases H1, H2 with ⟨⟨rfl⟩, ⟨rfl⟩⟩
 rw [Qy]
 simp -dsimp only [↓evA, evB, Qo, Tryz.func25, Tryz.f25, QNo, Qx3, TP, TZ, Nat.reduceAdd, Nat.reduceMul, Nat.reduceBEq, Nat.reduceLeDiff, Nat.reduceLT]
 apply VS a a4
 intro a a4
 simp -dsimp +contextual only [↓evA, eZ, Nat.reduceAdd, Nat.reduceMul, Nat.reduceBEq, Nat.reduceLeDiff, Nat.reduceLT, Q3, Qf5, Qf0]
 try simp only [JE, eY]
 all_goals rfl
theorem Qeh {R1 l} [H1 : EncL Vv R1 l] : CP T (n + 8) 25 [.imm 5 R1] = (Xa l).map fun r => .b r := by
 obtain ⟨rfl⟩ := H1
 rw [Qf]
 simp -dsimp +contextual only [↓evA, eZ, Nat.reduceAdd, Nat.reduceMul, Nat.reduceBEq, Nat.reduceLeDiff, Nat.reduceLT, Tryz.func25, Tryz.f25, QNo, Qx3, Qjg]
 try simp only [Xa, eY]
 all_goals rfl
theorem QgE {R1 l R2 a} [H1 : EncL Vv R1 l] [H2 : EncR Vv R2 a] : CP T (n + 9) 93 [.imm 5 R1, .agg R2] = (QbX l a).map fun r => .tup [.own 5 (r.1.map Vv), .b r.2] := by
 rcases H1, H2 with ⟨⟨rfl⟩, ⟨rfl⟩⟩
 rw [Qf]
 simp -dsimp +contextual only [↓evA, eZ, Nat.reduceAdd, Nat.reduceMul, Nat.reduceBEq, Nat.reduceLeDiff, Nat.reduceLT, Tryz.func93, Tryz.f93, QRn, QBe, Qf5, Qd2, Qeh]
 try simp only [QbX, eY]
 try simp only [List.contains_nil, Bool.not_false, Bool.and_true, VK, List.length_append, List.length_cons, List.length_nil, Nat.zero_add, VL, V0]
 all_goals first | rfl | (simp +contextual only [evN] <;> rfl)
theorem QfO (v a a2) {R1 s} [H1 : EncL c_b R1 s] : LP T (n + 1) 195 2 (frm [(0, .imm 1 R1), (1, .b v), (7, .i .i64 a), (8, .i .i64 a2)]) [] =
  Jd (run (XJ s v a) a2) (fun (zr : Int) => (XE.ret, frm [(4, .i .i64 zr)], [])) (fun (zr : Unit) => (XE.exit 0, frm [], [])) := by
 obtain ⟨rfl⟩ := H1
 rw [Qy]
 simp -dsimp only [↓evA, evB, Qo, Tryz.func195, Tryz.f195, QEd, Qp7, TP, TZ, Nat.reduceAdd, Nat.reduceMul, Nat.reduceBEq, Nat.reduceLeDiff, Nat.reduceLT]
 apply Qs a2
 intro a2
 simp -dsimp +contextual only [↓evA, eZ, Nat.reduceAdd, Nat.reduceMul, Nat.reduceBEq, Nat.reduceLeDiff, Nat.reduceLT]
 try simp only [XJ, eY]
 all_goals rfl
theorem QhB (v) {R1 s} [H1 : EncL c_b R1 s] : CP T (n + 2) 195 [.imm 1 R1, .b v] = (Qbr s v).map fun r => .i .i64 r := by
 obtain ⟨rfl⟩ := H1
 rw [Qf]
 simp -dsimp +contextual only [↓evA, eZ, Nat.reduceAdd, Nat.reduceMul, Nat.reduceBEq, Nat.reduceLeDiff, Nat.reduceLT, Tryz.func195, Tryz.f195, QEd, Qp7, QfO]
 try simp only [Qbr, eY]
 all_goals rfl
theorem QaL (v) {R1 s} [H1 : EncL c_b R1 s] : CP T (n + 3) 148 [.imm 1 R1, .b v] = (VN s v).map fun r => .b r := by
 obtain ⟨rfl⟩ := H1
 rw [Qf]
 simp -dsimp +contextual only [↓evA, eZ, Nat.reduceAdd, Nat.reduceMul, Nat.reduceBEq, Nat.reduceLeDiff, Nat.reduceLT, Tryz.func148, Tryz.f148, QPM, Qtn, QhB]
 try simp only [VN, eY]
 all_goals rfl
theorem Qhy (a3 a4 a6 a7) {R1 l R2 a R3 a2 R4 a5} [H1 : EncL Qj R1 l] [H2 : EncR Qj R2 a] [H3 : EncL Qj R3 a2] [H4 : EncL Qj R4 a5] : LP T (n + 1) 24 9 (frm [(0, .imm 5 R1), (4, .ptr 0 0 0), (10, .imm 5 R3), (11, .i .i64 a3), (12, .i .i64 a4), (62, .imm 5 R4), (63, .i .i64 a6), (64, .i .i64 a7)]) [some (Ent.box R2)] =
  Jd (run (XM l a a2 a3 a4 a5 a6) a7) (fun (zr : Bool) => (XE.ret, frm [(2, .b zr)], [])) (fun (zr : Unit) => (XE.exit 2, frm [(0, .imm 5 (l.map Qj)), (10, .imm 5 (a2.map Qj)), (11, .i .i64 a3), (12, .i .i64 a4)], [])) := by
 rcases H1, H2, H3, H4 with ⟨⟨rfl⟩, ⟨rfl⟩, ⟨rfl⟩, ⟨rfl⟩⟩
 rw [Qy]
 simp -dsimp only [↓evA, evB, Qo, Tryz.func24, Tryz.f24, QHk, Qwi, TP, TZ, Nat.reduceAdd, Nat.reduceMul, Nat.reduceBEq, Nat.reduceLeDiff, Nat.reduceLT]
 apply Qs a7
 intro a7
 simp -dsimp +contextual only [↓evA, eZ, Nat.reduceAdd, Nat.reduceMul, Nat.reduceBEq, Nat.reduceLeDiff, Nat.reduceLT]
 try simp only [XM, eY]
 all_goals rfl
theorem QhH (a2 a3) {R1 l R2 a} [H1 : EncL Qj R1 l] [H2 : EncL Qj R2 a] : LP T (n + 2) 24 4 (frm [(0, .imm 5 R1), (10, .imm 5 R2), (11, .i .i64 a2), (12, .i .i64 a3)]) [] =
  Jd (run (Jv l a a2) a3) (fun (zr : Bool) => (XE.ret, frm [(2, .b zr)], [])) (fun (zr : Unit) => (XE.exit 0, frm [], [])) := by
 rcases H1, H2 with ⟨⟨rfl⟩, ⟨rfl⟩⟩
 rw [Qy]
 simp -dsimp only [↓evA, evB, Qo, Tryz.func24, Tryz.f24, QHk, Qwi, TP, TZ, Nat.reduceAdd, Nat.reduceMul, Nat.reduceBEq, Nat.reduceLeDiff, Nat.reduceLT]
 apply Qs a3
 intro a3
 simp -dsimp +contextual only [↓evA, eZ, Nat.reduceAdd, Nat.reduceMul, Nat.reduceBEq, Nat.reduceLeDiff, Nat.reduceLT, Q3, Qhy]
 try simp only [Jv, eY]
 all_goals rfl
theorem Qdq {R1 l} [H1 : EncL Qj R1 l] : CP T (n + 3) 24 [.imm 5 R1] = (Xm l).map fun r => .b r := by
 obtain ⟨rfl⟩ := H1
 rw [Qf]
 simp -dsimp +contextual only [↓evA, eZ, Nat.reduceAdd, Nat.reduceMul, Nat.reduceBEq, Nat.reduceLeDiff, Nat.reduceLT, Tryz.func24, Tryz.f24, QHk, Qwi, QhH]
 try simp only [Xm, eY]
 all_goals rfl
theorem QgH (a2 a3) {R1 l R2 a} [H1 : EncL Vk R1 l] [H2 : EncL Vk R2 a] : LP T (n + 2) 26 4 (frm [(0, .imm 4 R1), (8, .imm 4 R2), (9, .i .i64 a2), (10, .i .i64 a3)]) [] =
  Jd (run (Jc l a a2) a3) (fun (zr : Bool) => (XE.ret, frm [(2, .b zr)], [])) (fun (zr : Unit) => (XE.exit 0, frm [], [])) := by
 rcases H1, H2 with ⟨⟨rfl⟩, ⟨rfl⟩⟩
 rw [Qy]
 simp -dsimp only [↓evA, evB, Qo, Tryz.func26, Tryz.f26, QLQ, QwZ, TP, TZ, Nat.reduceAdd, Nat.reduceMul, Nat.reduceBEq, Nat.reduceLeDiff, Nat.reduceLT]
 apply Qs a3
 intro a3
 simp -dsimp +contextual only [↓evA, eZ, Nat.reduceAdd, Nat.reduceMul, Nat.reduceBEq, Nat.reduceLeDiff, Nat.reduceLT, Q3]
 try simp only [Jc, eY]
 all_goals rfl
theorem QeX {R1 l} [H1 : EncL Vk R1 l] : CP T (n + 3) 26 [.imm 4 R1] = (JK l).map fun r => .b r := by
 obtain ⟨rfl⟩ := H1
 rw [Qf]
 simp -dsimp +contextual only [↓evA, eZ, Nat.reduceAdd, Nat.reduceMul, Nat.reduceBEq, Nat.reduceLeDiff, Nat.reduceLT, Tryz.func26, Tryz.f26, QLQ, QwZ, QgH]
 try simp only [JK, eY]
 all_goals rfl
theorem QiI (a a3 a4) {R1 l R2 o R3 a2} [H1 : EncL Vv R1 l] [H2 : EncL VP R2 o] [H3 : EncL Vv R3 a2] : LP T (n + 3) 66 5 (frm [(0, .imm 5 R1), (1, .i .i64 a), (5, .sl 0), (13, .imm 5 R3), (14, .i .i64 a3), (15, .i .i64 a4)]) [some (Ent.lst 1 R2)] =
  (run (ZG l a a2 a3) (o, a4)).map (fun (zr : (List Int)) => (XE.exit 0, frm [(5, .sl 0)], [some (Ent.lst 1 (zr.map VP))])) := by
 rcases H1, H2, H3 with ⟨⟨rfl⟩, ⟨rfl⟩, ⟨rfl⟩⟩
 rw [Qy]
 simp -dsimp only [↓evA, evB, Qo, Tryz.func66, Tryz.f66, QLE, Qyd, TP, TZ, Nat.reduceAdd, Nat.reduceMul, Nat.reduceBEq, Nat.reduceLeDiff, Nat.reduceLT]
 apply VS o a4
 intro o a4
 simp -dsimp +contextual only [↓evA, eZ, Nat.reduceAdd, Nat.reduceMul, Nat.reduceBEq, Nat.reduceLeDiff, Nat.reduceLT, srt, Qf0]
 try simp only [ZG, eY]
 all_goals rfl
theorem Qms (a) {R1 l} [H1 : EncL Vv R1 l] : CP T (n + 9) 66 [.imm 5 R1, .i .i64 a] = (QcT l a).map fun r => .own 1 (r.map VP) := by
 obtain ⟨rfl⟩ := H1
 rw [Qf]
 simp -dsimp +contextual only [↓evA, eZ, Nat.reduceAdd, Nat.reduceMul, Nat.reduceBEq, Nat.reduceLeDiff, Nat.reduceLT, Tryz.func66, Tryz.f66, QLE, Qyd, srt, Qeh, QiI]
 try simp only [QcT, eY]
 all_goals first | rfl | (simp +contextual only [evN] <;> rfl)
theorem Qgk (v a a2) {R1 s} [H1 : EncL VP R1 s] : LP T (n + 1) 117 2 (frm [(0, .imm 1 R1), (1, .i .i64 v), (7, .i .i64 a), (8, .i .i64 a2)]) [] =
  Jd (run (XY s v a) a2) (fun (zr : Int) => (XE.ret, frm [(4, .i .i64 zr)], [])) (fun (zr : Unit) => (XE.exit 0, frm [], [])) := by
 obtain ⟨rfl⟩ := H1
 rw [Qy]
 simp -dsimp only [↓evA, evB, Qo, Tryz.func117, Tryz.f117, QDd, Qrt, TP, TZ, Nat.reduceAdd, Nat.reduceMul, Nat.reduceBEq, Nat.reduceLeDiff, Nat.reduceLT]
 apply Qs a2
 intro a2
 simp -dsimp +contextual only [↓evA, eZ, Nat.reduceAdd, Nat.reduceMul, Nat.reduceBEq, Nat.reduceLeDiff, Nat.reduceLT]
 try simp only [XY, eY]
 all_goals rfl
theorem QiE (v) {R1 s} [H1 : EncL VP R1 s] : CP T (n + 2) 117 [.imm 1 R1, .i .i64 v] = (Qb8 s v).map fun r => .i .i64 r := by
 obtain ⟨rfl⟩ := H1
 rw [Qf]
 simp -dsimp +contextual only [↓evA, eZ, Nat.reduceAdd, Nat.reduceMul, Nat.reduceBEq, Nat.reduceLeDiff, Nat.reduceLT, Tryz.func117, Tryz.f117, QDd, Qrt, Qgk]
 try simp only [Qb8, eY]
 all_goals rfl
theorem Qgn (v) {R1 s} [H1 : EncL VP R1 s] : CP T (n + 3) 68 [.imm 1 R1, .i .i64 v] = (JP s v).map fun r => .b r := by
 obtain ⟨rfl⟩ := H1
 rw [Qf]
 simp -dsimp +contextual only [↓evA, eZ, Nat.reduceAdd, Nat.reduceMul, Nat.reduceBEq, Nat.reduceLeDiff, Nat.reduceLT, Tryz.func68, Tryz.f68, QUA, QBt, QiE]
 try simp only [JP, eY]
 all_goals rfl
theorem QjO (a4 a5) {R1 a R2 a2 R3 a3} [H1 : EncR QV R1 a] [H2 : EncL VP R2 a2] [H3 : EncL QE R3 a3] : LP T (n + 5) 27 5 (frm [(1, .ptr 0 0 0), (3, .sl 1), (23, .imm 8 R3), (24, .i .i64 a4), (25, .i .i64 a5)]) [some (Ent.box R1), some (Ent.lst 1 R2)] =
  Jd (run (ZA a a2 a3 a4) a5) (fun (zr : Bool) => (XE.ret, frm [(2, .b zr)], [])) (fun (zr : Unit) => (XE.exit 0, frm [(1, .ptr 0 0 0), (3, .sl 1)], [some (Ent.box (QV a)), some (Ent.lst 1 (a2.map VP))])) := by
 rcases H1, H2, H3 with ⟨⟨rfl⟩, ⟨rfl⟩, ⟨rfl⟩⟩
 rw [Qy]
 simp -dsimp only [↓evA, evB, Qo, Tryz.func27, Tryz.f27, QCj, Qs4, TP, TZ, Nat.reduceAdd, Nat.reduceMul, Nat.reduceBEq, Nat.reduceLeDiff, Nat.reduceLT]
 apply Qs a5
 intro a5
 simp -dsimp +contextual (maxSteps := 100000000) only [↓evA, eZ, Nat.reduceAdd, Nat.reduceMul, Nat.reduceBEq, Nat.reduceLeDiff, Nat.reduceLT, ZJ, Qgn]
 try simp only [ZA, eY]
 all_goals rfl
theorem Qip (a4 a5) {R1 a R2 a2 R3 a3} [H1 : EncR QV R1 a] [H2 : EncL VP R2 a2] [H3 : EncL QX R3 a3] : LP T (n + 5) 27 11 (frm [(1, .ptr 0 0 0), (3, .sl 1), (57, .imm 3 R3), (58, .i .i64 a4), (59, .i .i64 a5)]) [some (Ent.box R1), some (Ent.lst 1 R2)] =
  Jd (run (Zc a a2 a3 a4) a5) (fun (zr : Bool) => (XE.ret, frm [(2, .b zr)], [])) (fun (zr : Unit) => (XE.exit 2, frm [(1, .ptr 0 0 0), (3, .sl 1)], [some (Ent.box (QV a)), some (Ent.lst 1 (a2.map VP))])) := by
 rcases H1, H2, H3 with ⟨⟨rfl⟩, ⟨rfl⟩, ⟨rfl⟩⟩
 rw [Qy]
 simp -dsimp only [↓evA, evB, Qo, Tryz.func27, Tryz.f27, QCj, Qs4, TP, TZ, Nat.reduceAdd, Nat.reduceMul, Nat.reduceBEq, Nat.reduceLeDiff, Nat.reduceLT]
 apply Qs a5
 intro a5
 simp -dsimp +contextual (maxSteps := 100000000) only [↓evA, eZ, Nat.reduceAdd, Nat.reduceMul, Nat.reduceBEq, Nat.reduceLeDiff, Nat.reduceLT, Qar]
 try simp only [Zc, eY]
 all_goals rfl
end Go.Proofs.YtponohekgnklkaaGreat
