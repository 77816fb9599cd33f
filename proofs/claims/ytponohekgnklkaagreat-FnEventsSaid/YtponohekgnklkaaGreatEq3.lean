import Derived.Test.YtponohekgnklkaaGreatEq2
namespace Go.Proofs.YtponohekgnklkaaGreat
open Go Go.Proofs Go.Proofs.YtponohekgnklkaaGreat.Am
set_option maxHeartbeats 4000000
set_option linter.unusedVariables false
set_option linter.unusedSimpArgs false
set_option linter.defProp false
set_option maxRecDepth 100000
variable (n : Nat)
theorem Qiz (a3 a4) {R1 a R2 a2} [H1 : EncR QV R1 a] [H2 : EncL VP R2 a2] : LP T (n + 5) 27 17 (frm [(1, .ptr 0 0 0), (75, .sl 1), (76, .i .i64 a3), (77, .i .i64 a4)]) [some (Ent.box R1), some (Ent.lst 1 R2)] =
  Jd (run (J7 a a2 a3) a4) (fun (zr : Bool) => (XE.ret, frm [(2, .b zr)], [])) (fun (zr : Unit) => (XE.exit 4, frm [], [])) := by
 rcases H1, H2 with ⟨⟨rfl⟩, ⟨rfl⟩⟩
 rw [Qy]
 simp -dsimp only [↓evA, evB, Qo, Tryz.func27, Tryz.f27, QCj, Qs4, TP, TZ, Nat.reduceAdd, Nat.reduceMul, Nat.reduceBEq, Nat.reduceLeDiff, Nat.reduceLT]
 apply Qs a4
 intro a4
 simp -dsimp +contextual (maxSteps := 100000000) only [↓evA, eZ, Nat.reduceAdd, Nat.reduceMul, Nat.reduceBEq, Nat.reduceLeDiff, Nat.reduceLT, Qar]
 try simp only [J7, eY]
 all_goals rfl
theorem Qml {R1 a} [H1 : EncR QV R1 a] : CP T (n + 10) 27 [.agg R1] = (QaH a).map fun r => .b r := by
 obtain ⟨rfl⟩ := H1
 rw [Qf]
 simp -dsimp +contextual (maxSteps := 100000000) only [↓evA, eZ, Nat.reduceAdd, Nat.reduceMul, Nat.reduceBEq, Nat.reduceLeDiff, Nat.reduceLT, Tryz.func27, Tryz.f27, QCj, Qs4, Qms, QjO, Qip, Qiz]
 try simp only [QaH, eY]
 all_goals rfl
theorem Qgw {R1 a} [H1 : EncR QS R1 a] : CP T (n + 2) 70 [.agg R1] = (QbU a).map fun r => .b r := by
 obtain ⟨rfl⟩ := H1
 rw [Qf]
 simp -dsimp +contextual only [↓evA, eZ, Nat.reduceAdd, Nat.reduceMul, Nat.reduceBEq, Nat.reduceLeDiff, Nat.reduceLT, Tryz.func70, Tryz.f70, QUD, QAj, Q3]
 try simp only [QbU, eY]
 all_goals rfl
theorem Qg3 (a) {R1 l} [H1 : EncL Q4 R1 l] : CP T (n + 5) 72 [.imm 3 R1, .i .i64 a] = (QbV l a).map fun r => .own 2 (r.map Vp) := by
 obtain ⟨rfl⟩ := H1
 rw [Qf]
 simp -dsimp +contextual only [↓evA, eZ, Nat.reduceAdd, Nat.reduceMul, Nat.reduceBEq, Nat.reduceLeDiff, Nat.reduceLT, Tryz.func72, Tryz.f72, QSC, QzW, Qf6, Qac]
 try simp only [QbV, eY]
 all_goals first | rfl | (simp +contextual only [evN] <;> rfl)
theorem Qm4 {R1 l} [H1 : EncL Vp R1 l] : CP T (n + 1) 120 [.imm 2 R1] = (Qcc l).map fun r => .i .i64 r := by
 obtain ⟨rfl⟩ := H1
 rw [Qf]
 simp -dsimp +contextual only [↓evA, eZ, Nat.reduceAdd, Nat.reduceMul, Nat.reduceBEq, Nat.reduceLeDiff, Nat.reduceLT, Tryz.func120, Tryz.f120, QM1, QuX]
 try simp only [Qcc, eY]
 all_goals rfl
theorem QcX {R1 l R2 a} [H1 : EncL Vp R1 l] [H2 : EncR QS R2 a] : CP T (n + 4) 71 [.imm 2 R1, .agg R2] = (JJ l a).map fun r => .i .i64 r := by
 rcases H1, H2 with ⟨⟨rfl⟩, ⟨rfl⟩⟩
 rw [Qf]
 simp -dsimp +contextual only [↓evA, eZ, Nat.reduceAdd, Nat.reduceMul, Nat.reduceBEq, Nat.reduceLeDiff, Nat.reduceLT, Tryz.func71, Tryz.f71, QRr, QBH, Qgw, QdV, Qm4]
 try simp only [JJ, eY]
 all_goals rfl
theorem QnN (s) : CP T (n + 1) 73 [.i .i64 s] = (QcJ s).map fun r => .i .i64 r := by
 rw [Qf]
 simp -dsimp +contextual only [↓evA, eZ, Nat.reduceAdd, Nat.reduceMul, Nat.reduceBEq, Nat.reduceLeDiff, Nat.reduceLT, Tryz.func73, Tryz.f73, QSp, QCa]
 try simp only [QcJ, eY]
 all_goals rfl
theorem Qhs (a3 a4) {R1 a R2 a2} [H1 : EncR QV R1 a] [H2 : EncL Qj R2 a2] : LP T (n + 6) 28 4 (frm [(1, .ptr 0 0 0), (14, .imm 5 R2), (15, .i .i64 a3), (16, .i .i64 a4)]) [some (Ent.box R1)] =
  Jd (run (Vd a a2 a3) a4) (fun (zr : Bool) => (XE.ret, frm [(2, .b zr)], [])) (fun (zr : Unit) => (XE.exit 0, frm [], [])) := by
 rcases H1, H2 with ⟨⟨rfl⟩, ⟨rfl⟩⟩
 rw [Qy]
 simp -dsimp only [↓evA, evB, Qo, Tryz.func28, Tryz.f28, QLX, Qzq, TP, TZ, Nat.reduceAdd, Nat.reduceMul, Nat.reduceBEq, Nat.reduceLeDiff, Nat.reduceLT]
 apply Qs a4
 intro a4
 simp -dsimp +contextual (maxSteps := 100000000) only [↓evA, eZ, Nat.reduceAdd, Nat.reduceMul, Nat.reduceBEq, Nat.reduceLeDiff, Nat.reduceLT, Qar, Qgw, Qg3, QcX, QnN]
 try simp only [Vd, eY]
 all_goals rfl
theorem Qkt {R1 a} [H1 : EncR QV R1 a] : CP T (n + 7) 28 [.agg R1] = (V4 a).map fun r => .b r := by
 obtain ⟨rfl⟩ := H1
 rw [Qf]
 simp -dsimp +contextual (maxSteps := 100000000) only [↓evA, eZ, Nat.reduceAdd, Nat.reduceMul, Nat.reduceBEq, Nat.reduceLeDiff, Nat.reduceLT, Tryz.func28, Tryz.f28, QLX, Qzq, Qhs]
 try simp only [V4, eY]
 all_goals rfl
theorem QkH (a2 a4 a5) {R1 a R2 a3} [H1 : EncR QV R1 a] [H2 : EncL QE R2 a3] : LP T (n + 1) 29 3 (frm [(1, .ptr 0 0 0), (3, .i .i64 a2), (13, .imm 8 R2), (14, .i .i64 a4), (15, .i .i64 a5)]) [some (Ent.box R1)] =
  (run (Qaf a a3 a4) (a2, a5)).map (fun (zr : Int) => (XE.exit 0, frm [(1, .ptr 0 0 0), (3, .i .i64 zr)], [some (Ent.box (QV a))])) := by
 rcases H1, H2 with ⟨⟨rfl⟩, ⟨rfl⟩⟩
 rw [Qy]
 simp -dsimp only [↓evA, evB, Qo, Tryz.func29, Tryz.f29, Qw8, Qqy, TP, TZ, Nat.reduceAdd, Nat.reduceMul, Nat.reduceBEq, Nat.reduceLeDiff, Nat.reduceLT]
 apply VS a2 a5
 intro a2 a5
 simp -dsimp +contextual (maxSteps := 100000000) only [↓evA, eZ, Nat.reduceAdd, Nat.reduceMul, Nat.reduceBEq, Nat.reduceLeDiff, Nat.reduceLT]
 try simp only [Qaf, eY]
 all_goals rfl
theorem QkP (a2 a4 a5) {R1 a R2 a3} [H1 : EncR QV R1 a] [H2 : EncL Qj R2 a3] : LP T (n + 1) 29 8 (frm [(1, .ptr 0 0 0), (3, .i .i64 a2), (25, .imm 5 R2), (26, .i .i64 a4), (27, .i .i64 a5)]) [some (Ent.box R1)] =
  (run (Qai a a3 a4) (a2, a5)).map (fun (zr : Int) => (XE.exit 2, frm [(1, .ptr 0 0 0), (3, .i .i64 zr)], [some (Ent.box (QV a))])) := by
 rcases H1, H2 with ⟨⟨rfl⟩, ⟨rfl⟩⟩
 rw [Qy]
 simp -dsimp only [↓evA, evB, Qo, Tryz.func29, Tryz.f29, Qw8, Qqy, TP, TZ, Nat.reduceAdd, Nat.reduceMul, Nat.reduceBEq, Nat.reduceLeDiff, Nat.reduceLT]
 apply VS a2 a5
 intro a2 a5
 simp -dsimp +contextual (maxSteps := 100000000) only [↓evA, eZ, Nat.reduceAdd, Nat.reduceMul, Nat.reduceBEq, Nat.reduceLeDiff, Nat.reduceLT]
 try simp only [Qai, eY]
 all_goals rfl
theorem Qi5 (a2 a4 a5) {R1 a R2 a3} [H1 : EncR QV R1 a] [H2 : EncL Vv R2 a3] : LP T (n + 1) 29 13 (frm [(1, .ptr 0 0 0), (3, .i .i64 a2), (37, .imm 5 R2), (38, .i .i64 a4), (39, .i .i64 a5)]) [some (Ent.box R1)] =
  (run (Zw a a3 a4) (a2, a5)).map (fun (zr : Int) => (XE.exit 4, frm [(1, .ptr 0 0 0), (3, .i .i64 zr)], [some (Ent.box (QV a))])) := by
 rcases H1, H2 with ⟨⟨rfl⟩, ⟨rfl⟩⟩
 rw [Qy]
 simp -dsimp only [↓evA, evB, Qo, Tryz.func29, Tryz.f29, Qw8, Qqy, TP, TZ, Nat.reduceAdd, Nat.reduceMul, Nat.reduceBEq, Nat.reduceLeDiff, Nat.reduceLT]
 apply VS a2 a5
 intro a2 a5
 simp -dsimp +contextual (maxSteps := 100000000) only [↓evA, eZ, Nat.reduceAdd, Nat.reduceMul, Nat.reduceBEq, Nat.reduceLeDiff, Nat.reduceLT]
 try simp only [Zw, eY]
 all_goals rfl
theorem Qjl (a a3 a4) {R1 a2} [H1 : EncL Vk R1 a2] : LP T (n + 1) 29 18 (frm [(3, .i .i64 a), (49, .imm 4 R1), (50, .i .i64 a3), (51, .i .i64 a4)]) [] =
  (run (ZD a2 a3) (a, a4)).map (fun (zr : Int) => (XE.exit 6, frm [(3, .i .i64 zr)], [])) := by
 obtain ⟨rfl⟩ := H1
 rw [Qy]
 simp -dsimp only [↓evA, evB, Qo, Tryz.func29, Tryz.f29, Qw8, Qqy, TP, TZ, Nat.reduceAdd, Nat.reduceMul, Nat.reduceBEq, Nat.reduceLeDiff, Nat.reduceLT]
 apply VS a a4
 intro a a4
 simp -dsimp +contextual only [↓evA, eZ, Nat.reduceAdd, Nat.reduceMul, Nat.reduceBEq, Nat.reduceLeDiff, Nat.reduceLT]
 try simp only [ZD, eY]
 all_goals rfl
theorem QnM {R1 a} [H1 : EncR QV R1 a] : CP T (n + 2) 29 [.agg R1] = (QdM a).map fun r => .i .i64 r := by
 obtain ⟨rfl⟩ := H1
 rw [Qf]
 simp -dsimp +contextual (maxSteps := 100000000) only [↓evA, eZ, Nat.reduceAdd, Nat.reduceMul, Nat.reduceBEq, Nat.reduceLeDiff, Nat.reduceLT, Tryz.func29, Tryz.f29, Qw8, Qqy, QkH, QkP, Qi5, Qjl]
 try simp only [QdM, eY]
 all_goals rfl
theorem Zm {R1 a} [H1 : EncR QV R1 a] : CP T (n + 11) 8 [.agg R1] = (Vs a).map fun r => .b r := by
 obtain ⟨rfl⟩ := H1
 rw [Qf]
 simp -dsimp +contextual (maxSteps := 100000000) only [↓evA, eZ, Nat.reduceAdd, Nat.reduceMul, Nat.reduceBEq, Nat.reduceLeDiff, Nat.reduceLT, Tryz.func8, Tryz.f8, Aa8, An8, Q3, Qf7, QeP, QdT, Qdq, Qeh, QeX, Qml, Qkt, QnM]
 try simp only [Vs, eY]
 all_goals rfl
theorem Qay (oxNo oxNow) {R1 a R2 oxFinds R3 oxSecrets R4 oxSlots R5 oxClaims R6 oxTrials R7 oxChain R8 oxBook R9 d} [H1 : EncR QV R1 a] [H2 : EncL QE R2 oxFinds] [H3 : EncL QB R3 oxSecrets] [H4 : EncL QX R4 oxSlots] [H5 : EncL Qj R5 oxClaims] [H6 : EncL QS R6 oxTrials] [H7 : EncL Vv R7 oxChain] [H8 : EncL Vk R8 oxBook] [H9 : EncL c_b R9 d] : CM T (n + 12) 94 [some (Ent.lst 8 R2), some (Ent.lst 3 R3), some (Ent.lst 3 R4), some (Ent.lst 5 R5), some (Ent.lst 4 R6), some (Ent.lst 5 R7), some (Ent.lst 4 R8), some (Ent.lst 1 R9)] [.agg R1, .agg [.i .i64 oxNo, .sl 0, .sl 1, .sl 2, .sl 3, .sl 4, .sl 5, .sl 6, .i .i64 oxNow], .sl 7] = (VG a (⟨oxNo, oxFinds, oxSecrets, oxSlots, oxClaims, oxTrials, oxChain, oxBook, oxNow⟩ : House) d).map fun r => .tup [.agg (VU r.1), .b r.2] := by
 rcases H1, H2, H3, H4, H5, H6, H7, H8, H9 with ⟨⟨rfl⟩, ⟨rfl⟩, ⟨rfl⟩, ⟨rfl⟩, ⟨rfl⟩, ⟨rfl⟩, ⟨rfl⟩, ⟨rfl⟩, ⟨rfl⟩⟩
 rw [Qoi]
 simp -dsimp +contextual (maxSteps := 100000000) only [↓evA, eZ, Nat.reduceAdd, Nat.reduceMul, Nat.reduceBEq, Nat.reduceLeDiff, Nat.reduceLT, Tryz.func94, Tryz.f94, QGL, Qvi, QaL, Zm, Ve]
 try simp only [VG, eY]
 all_goals rfl
theorem Qlz (a4) {R1 a R2 a2 R3 a3} [H1 : EncR QV R1 a] [H2 : EncR QE R2 a2] [H3 : EncL Vp R3 a3] : CP T (n + 13) 44 [.agg R1, .agg R2, .imm 2 R3, .i .i64 a4] = (Qcn a a2 a3 a4).map fun r => .tup [.agg (VU r.1), .b r.2] := by
 rcases H1, H2, H3 with ⟨⟨rfl⟩, ⟨rfl⟩, ⟨rfl⟩⟩
 rw [Qf]
 simp -dsimp +contextual (maxSteps := 100000000) only [↓evA, eZ, Nat.reduceAdd, Nat.reduceMul, Nat.reduceBEq, Nat.reduceLeDiff, Nat.reduceLT, Tryz.func44, Tryz.f44, QQN, QCy, srt, Ve, QmK, Qki, Qnd, QgE, Qay]
 try simp only [Qcn, eY]
 all_goals rfl
theorem Qio (c) {R1 a} [H1 : EncR Qj R1 a] : CP T (n + 1) 155 [.agg R1, .iptr 1 [[.i .i64 c]] 0 0] = (Qb3 a c).map fun r => .b r := by
 obtain ⟨rfl⟩ := H1
 rw [Qf]
 simp -dsimp +contextual only [↓evA, eZ, Nat.reduceAdd, Nat.reduceMul, Nat.reduceBEq, Nat.reduceLeDiff, Nat.reduceLT, Tryz.func155, Tryz.f155, QKD, Qts]
 try simp only [Qb3, eY]
 all_goals rfl
theorem Z9 (f a a2) {R1 s} [H1 : EncL Qj R1 s] : LP T (n + 2) 154 2 (frm [(0, .imm 5 R1), (1, .clo 155 [.iptr 1 [[.i .i64 f]] 0 0]), (7, .i .i64 a), (8, .i .i64 a2)]) [] =
  Jd (run (QA s f a) a2) (fun (zr : Int) => (XE.ret, frm [(4, .i .i64 zr)], [])) (fun (zr : Unit) => (XE.exit 0, frm [], [])) := by
 obtain ⟨rfl⟩ := H1
 rw [Qy]
 simp -dsimp only [↓evA, evB, Qo, Tryz.func154, Tryz.f154, Qor, QiW, TP, TZ, Nat.reduceAdd, Nat.reduceMul, Nat.reduceBEq, Nat.reduceLeDiff, Nat.reduceLT]
 apply Qs a2
 intro a2
 simp -dsimp +contextual only [↓evA, eZ, Nat.reduceAdd, Nat.reduceMul, Nat.reduceBEq, Nat.reduceLeDiff, Nat.reduceLT, Qio]
 try simp only [QA, eY]
 all_goals rfl
theorem QaJ (c) {R1 s} [H1 : EncL Qj R1 s] : CP T (n + 3) 154 [.imm 5 R1, .clo 155 [.iptr 1 [[.i .i64 c]] 0 0]] = (Vt s c).map fun r => .i .i64 r := by
 obtain ⟨rfl⟩ := H1
 rw [Qf]
 simp -dsimp +contextual only [↓evA, eZ, Nat.reduceAdd, Nat.reduceMul, Nat.reduceBEq, Nat.reduceLeDiff, Nat.reduceLT, Tryz.func154, Tryz.f154, Qor, QiW, Z9]
 try simp only [Vt, eY]
 all_goals rfl
theorem Qah (i) {R1 l} [H1 : EncL Qj R1 l] : CP T (n + 4) 97 [.imm 5 R1, .i .i64 i] = (Xg l i).map fun r => .i .i64 r := by
 obtain ⟨rfl⟩ := H1
 rw [Qf]
 simp -dsimp +contextual only [↓evA, eZ, Nat.reduceAdd, Nat.reduceMul, Nat.reduceBEq, Nat.reduceLeDiff, Nat.reduceLT, Tryz.func97, Tryz.f97, QTe, QAF, QaJ]
 try simp only [Xg, eY]
 all_goals rfl
theorem Qji {R1 a R2 c} [H1 : EncR Qj R1 a] [H2 : EncR Qj R2 c] : CP T (n + 1) 150 [.agg R1, .iptr 5 [R2] 0 0] = (QcC a c).map fun r => .b r := by
 rcases H1, H2 with ⟨⟨rfl⟩, ⟨rfl⟩⟩
 rw [Qf]
 simp -dsimp +contextual only [↓evA, eZ, Nat.reduceAdd, Nat.reduceMul, Nat.reduceBEq, Nat.reduceLeDiff, Nat.reduceLT, Tryz.func150, Tryz.f150, QMT, QuC]
 try simp only [QcC, eY]
 all_goals rfl
theorem Qax (a a2) {R1 s R2 f} [H1 : EncL Qj R1 s] [H2 : EncR Qj R2 f] : LP T (n + 2) 154 2 (frm [(0, .imm 5 R1), (1, .clo 150 [.iptr 5 [R2] 0 0]), (7, .i .i64 a), (8, .i .i64 a2)]) [] =
  Jd (run (QD s f a) a2) (fun (zr : Int) => (XE.ret, frm [(4, .i .i64 zr)], [])) (fun (zr : Unit) => (XE.exit 0, frm [], [])) := by
 rcases H1, H2 with ⟨⟨rfl⟩, ⟨rfl⟩⟩
 rw [Qy]
 simp -dsimp only [↓evA, evB, Qo, Tryz.func154, Tryz.f154, Qor, QiW, TP, TZ, Nat.reduceAdd, Nat.reduceMul, Nat.reduceBEq, Nat.reduceLeDiff, Nat.reduceLT]
 apply Qs a2
 intro a2
 simp -dsimp +contextual only [↓evA, eZ, Nat.reduceAdd, Nat.reduceMul, Nat.reduceBEq, Nat.reduceLeDiff, Nat.reduceLT, Qji]
 try simp only [QD, eY]
 all_goals rfl
theorem Qa5 {R1 s R2 c} [H1 : EncL Qj R1 s] [H2 : EncR Qj R2 c] : CP T (n + 3) 154 [.imm 5 R1, .clo 150 [.iptr 5 [R2] 0 0]] = (Vw s c).map fun r => .i .i64 r := by
 rcases H1, H2 with ⟨⟨rfl⟩, ⟨rfl⟩⟩
 rw [Qf]
 simp -dsimp +contextual only [↓evA, eZ, Nat.reduceAdd, Nat.reduceMul, Nat.reduceBEq, Nat.reduceLeDiff, Nat.reduceLT, Tryz.func154, Tryz.f154, Qor, QiW, Qax]
 try simp only [Vw, eY]
 all_goals rfl
theorem Qao {R1 s R2 c} [H1 : EncL Qj R1 s] [H2 : EncR Qj R2 c] : CP T (n + 4) 149 [.imm 5 R1, .clo 150 [.iptr 5 [R2] 0 0]] = (QW s c).map fun r => .b r := by
 rcases H1, H2 with ⟨⟨rfl⟩, ⟨rfl⟩⟩
 rw [Qf]
 simp -dsimp +contextual only [↓evA, eZ, Nat.reduceAdd, Nat.reduceMul, Nat.reduceBEq, Nat.reduceLeDiff, Nat.reduceLT, Tryz.func149, Tryz.f149, QD7, QpU, Qa5]
 try simp only [QW, eY]
 all_goals rfl
theorem Qh4 (a2) {R1 l R2 a R3 o} [H1 : EncL Qj R1 l] [H2 : EncR Qj R2 a] [H3 : EncL Qj R3 o] : LP T (n + 1) 95 5 (frm [(0, .imm 5 R1), (3, .ptr 0 0 0), (6, .sl 1), (7, .i .i64 a2)]) [some (Ent.box R2), some (Ent.lst 5 R3)] =
  (run (Zd l a o) a2).map (fun (zr : Int) => (XE.exit 0, frm [(0, .imm 5 (l.map Qj)), (3, .ptr 0 0 0), (6, .sl 1), (7, .i .i64 zr)], [some (Ent.box (Qj a)), some (Ent.lst 5 (o.map Qj))])) := by
 rcases H1, H2, H3 with ⟨⟨rfl⟩, ⟨rfl⟩, ⟨rfl⟩⟩
 rw [Qy]
 simp -dsimp only [↓evA, evB, Qo, Tryz.func95, Tryz.f95, QIQ, QyB, TP, TZ, Nat.reduceAdd, Nat.reduceMul, Nat.reduceBEq, Nat.reduceLeDiff, Nat.reduceLT]
 apply Qs a2
 intro a2
 simp -dsimp +contextual only [↓evA, eZ, Nat.reduceAdd, Nat.reduceMul, Nat.reduceBEq, Nat.reduceLeDiff, Nat.reduceLT, srt]
 try simp only [Zd, eY]
 all_goals rfl
theorem QlA {R1 l R2 a} [H1 : EncL Qj R1 l] [H2 : EncR Qj R2 a] : CP T (n + 5) 95 [.imm 5 R1, .agg R2] = (Qcr l a).map fun r => .tup [.own 5 (r.1.map Qj), .b r.2] := by
 rcases H1, H2 with ⟨⟨rfl⟩, ⟨rfl⟩⟩
 rw [Qf]
 simp -dsimp +contextual only [↓evA, eZ, Nat.reduceAdd, Nat.reduceMul, Nat.reduceBEq, Nat.reduceLeDiff, Nat.reduceLT, Tryz.func95, Tryz.f95, QIQ, QyB, srt, QbE, Qah, Qao, QCe, Qdq, Qh4]
 try simp only [Qcr, eY]
 all_goals first | rfl | (simp +contextual only [evN] <;> rfl)
theorem Qjf (oxNo oxNow) {R1 a R2 oxFinds R3 oxSecrets R4 oxSlots R5 oxClaims R6 oxTrials R7 oxChain R8 oxBook} [H1 : EncR QV R1 a] [H2 : EncL QE R2 oxFinds] [H3 : EncL QB R3 oxSecrets] [H4 : EncL QX R4 oxSlots] [H5 : EncL Qj R5 oxClaims] [H6 : EncL QS R6 oxTrials] [H7 : EncL Vv R7 oxChain] [H8 : EncL Vk R8 oxBook] : CM T (n + 12) 94 [some (Ent.lst 8 R2), some (Ent.lst 3 R3), some (Ent.lst 3 R4), some (Ent.lst 5 R5), some (Ent.lst 4 R6), some (Ent.lst 5 R7), some (Ent.lst 4 R8)] [.agg R1, .agg [.i .i64 oxNo, .sl 0, .sl 1, .sl 2, .sl 3, .sl 4, .sl 5, .sl 6, .i .i64 oxNow], .nil] = (QaY a (⟨oxNo, oxFinds, oxSecrets, oxSlots, oxClaims, oxTrials, oxChain, oxBook, oxNow⟩ : House)).map fun r => .tup [.agg (VU r.1), .b r.2] := by
 rcases H1, H2, H3, H4, H5, H6, H7, H8 with ⟨⟨rfl⟩, ⟨rfl⟩, ⟨rfl⟩, ⟨rfl⟩, ⟨rfl⟩, ⟨rfl⟩, ⟨rfl⟩, ⟨rfl⟩⟩
 rw [Qoi]
 simp -dsimp +contextual (maxSteps := 100000000) only [↓evA, eZ, Nat.reduceAdd, Nat.reduceMul, Nat.reduceBEq, Nat.reduceLeDiff, Nat.reduceLT, Tryz.func94, Tryz.f94, QGL, Qvi, QaL, Zm, Ve]
 try simp only [QaY, eY]
 all_goals rfl
theorem QkN (i w a2) {R1 a} [H1 : EncR QV R1 a] : CP T (n + 13) 45 [.agg R1, .i .i64 i, .i .i64 w, .i .i64 a2] = (QbF a i w a2).map fun r => .tup [.agg (VU r.1), .b r.2] := by
 obtain ⟨rfl⟩ := H1
 rw [Qf]
 simp -dsimp +contextual (maxSteps := 100000000) only [↓evA, eZ, Nat.reduceAdd, Nat.reduceMul, Nat.reduceBEq, Nat.reduceLeDiff, Nat.reduceLT, Tryz.func45, Tryz.f45, QVG, QC4, srt, Ve, QlA, Zm, ZJ, Qah, QFp, Qjf]
 try simp only [QbF, eY]
 try simp only [List.contains_nil, Bool.not_false, Bool.and_true, VK, List.length_append, List.length_cons, List.length_nil, Nat.zero_add, VL, V0]
 all_goals rfl
theorem Qiw (c a) {R1 l} [H1 : EncL Vp R1 l] : CP T (n + 6) 199 [.imm 2 R1, .i .i64 c, .i .i64 a] = (Qap l c a).map fun r => .i .i64 r := by
 obtain ⟨rfl⟩ := H1
 rw [Qf]
 simp -dsimp +contextual only [↓evA, eZ, Nat.reduceAdd, Nat.reduceMul, Nat.reduceBEq, Nat.reduceLeDiff, Nat.reduceLT, Tryz.func199, Tryz.f199, QJz, Qup, QdV, Q3, QkY]
 try simp only [Qap, eY]
 all_goals rfl
theorem Qhw {R1 l R2 a} [H1 : EncL Vp R1 l] [H2 : EncR QS R2 a] : CP T (n + 7) 156 [.imm 2 R1, .agg R2] = (ZT l a).map fun r => .i .i64 r := by
 rcases H1, H2 with ⟨⟨rfl⟩, ⟨rfl⟩⟩
 rw [Qf]
 simp -dsimp +contextual only [↓evA, eZ, Nat.reduceAdd, Nat.reduceMul, Nat.reduceBEq, Nat.reduceLeDiff, Nat.reduceLT, Tryz.func156, Tryz.f156, QO4, QtK, QcX, Qiw]
 try simp only [ZT, eY]
 all_goals rfl
theorem Qiv (q a2 a3) {R1 a} [H1 : EncL Vp R1 a] : LP T (n + 1) 157 2 (frm [(1, .i .i64 q), (7, .imm 2 R1), (8, .i .i64 a2), (9, .i .i64 a3)]) [] =
  Jd (run (Zi q a a2) a3) (fun (zr : Int) => (XE.ret, frm [(4, .i .i64 zr)], [])) (fun (zr : Unit) => (XE.exit 0, frm [], [])) := by
 obtain ⟨rfl⟩ := H1
 rw [Qy]
 simp -dsimp only [↓evA, evB, Qo, Tryz.func157, Tryz.f157, QDq, Qrr, TP, TZ, Nat.reduceAdd, Nat.reduceMul, Nat.reduceBEq, Nat.reduceLeDiff, Nat.reduceLT]
 apply Qs a3
 intro a3
 simp -dsimp +contextual only [↓evA, eZ, Nat.reduceAdd, Nat.reduceMul, Nat.reduceBEq, Nat.reduceLeDiff, Nat.reduceLT]
 try simp only [Zi, eY]
 all_goals rfl
theorem Qlr (q) {R1 l} [H1 : EncL Vp R1 l] : CP T (n + 2) 157 [.imm 2 R1, .i .i64 q] = (Qct l q).map fun r => .i .i64 r := by
 obtain ⟨rfl⟩ := H1
 rw [Qf]
 simp -dsimp +contextual only [↓evA, eZ, Nat.reduceAdd, Nat.reduceMul, Nat.reduceBEq, Nat.reduceLeDiff, Nat.reduceLT, Tryz.func157, Tryz.f157, QDq, Qrr, Qiv]
 try simp only [Qct, eY]
 all_goals rfl
theorem Qjo (a2) {R1 l R2 a} [H1 : EncL Vp R1 l] [H2 : EncR QS R2 a] : CP T (n + 8) 98 [.imm 2 R1, .agg R2, .i .i64 a2] = (Qbc l a a2).map fun r => .tup [.agg (QS r.1), .b r.2] := by
 rcases H1, H2 with ⟨⟨rfl⟩, ⟨rfl⟩⟩
 rw [Qf]
 simp -dsimp +contextual only [↓evA, eZ, Nat.reduceAdd, Nat.reduceMul, Nat.reduceBEq, Nat.reduceLeDiff, Nat.reduceLT, Tryz.func98, Tryz.f98, QVE, QA9, Qhw, Qlr]
 try simp only [Qbc, eY]
 all_goals rfl
theorem QfX (i s) {R1 l} [H1 : EncL Qj R1 l] : CP T (n + 5) 99 [.imm 5 R1, .i .i64 i, .i .i64 s] = (Ji l i s).map fun r => .tup [.own 5 (r.1.map Qj), .b r.2] := by
 obtain ⟨rfl⟩ := H1
 rw [Qf]
 simp -dsimp +contextual only [↓evA, eZ, Nat.reduceAdd, Nat.reduceMul, Nat.reduceBEq, Nat.reduceLeDiff, Nat.reduceLT, Tryz.func99, Tryz.f99, QUr, QBY, QbE, Qah, Qdq]
 try simp only [Ji, eY]
 all_goals first | rfl | (simp +contextual only [evN] <;> rfl)
theorem Qi1 (a2 a3) {R1 a} [H1 : EncR QV R1 a] : CP T (n + 13) 46 [.agg R1, .i .i64 a2, .i .i64 a3] = (Qba a a2 a3).map fun r => .tup [.agg (VU r.1), .b r.2] := by
 obtain ⟨rfl⟩ := H1
 rw [Qf]
 simp -dsimp +contextual (maxSteps := 100000000) only [↓evA, eZ, Nat.reduceAdd, Nat.reduceMul, Nat.reduceBEq, Nat.reduceLeDiff, Nat.reduceLT, Tryz.func46, Tryz.f46, QSF, QC7, srt, Ve, Qah, Zm, Qg3, Qjo, QcX, QfX, Qay]
 try simp only [Qba, eY]
 all_goals rfl
theorem Qe2 (a2) {R1 a} [H1 : EncR QV R1 a] : CP T (n + 12) 100 [.agg R1, .i .i64 a2] = (QaE a a2).map fun r => .tup [.agg (QE r.1), .b r.2] := by
 obtain ⟨rfl⟩ := H1
 rw [Qf]
 simp -dsimp +contextual (maxSteps := 100000000) only [↓evA, eZ, Nat.reduceAdd, Nat.reduceMul, Nat.reduceBEq, Nat.reduceLeDiff, Nat.reduceLT, Tryz.func100, Tryz.f100, QKt, Qu1, Qar, Zm, ZJ]
 try simp only [QaE, eY]
 all_goals rfl
theorem Qgh (a f a3 a4) {R1 b R2 a2} [H1 : EncR Qj R1 b] [H2 : EncL Qj R2 a2] : LP T (n + 1) 101 4 (frm [(1, .i .i64 a), (5, .ptr 0 0 0), (6, .b f), (10, .imm 5 R2), (11, .i .i64 a3), (12, .i .i64 a4)]) [some (Ent.box R1)] =
  (run (Vl a a2 a3) (b, f, a4)).map (fun (zr : Claim) => (XE.exit 0, frm [(5, .ptr 0 0 0)], [some (Ent.box (Qj zr))])) := by
 rcases H1, H2 with ⟨⟨rfl⟩, ⟨rfl⟩⟩
 rw [Qy]
 simp -dsimp only [↓evA, evB, Qo, Tryz.func101, Tryz.f101, QDH, QrC, TP, TZ, Nat.reduceAdd, Nat.reduceMul, Nat.reduceBEq, Nat.reduceLeDiff, Nat.reduceLT]
 apply Qcp b f a4
 intro b f a4
 simp -dsimp +contextual only [↓evA, eZ, Nat.reduceAdd, Nat.reduceMul, Nat.reduceBEq, Nat.reduceLeDiff, Nat.reduceLT]
 try simp only [Vl, eY]
 all_goals rfl
theorem Qev (a) {R1 l} [H1 : EncL Qj R1 l] : CP T (n + 2) 101 [.imm 5 R1, .i .i64 a] = (J5 l a).map fun r => .i .i64 r := by
 obtain ⟨rfl⟩ := H1
 rw [Qf]
 simp -dsimp +contextual only [↓evA, eZ, Nat.reduceAdd, Nat.reduceMul, Nat.reduceBEq, Nat.reduceLeDiff, Nat.reduceLT, Tryz.func101, Tryz.f101, QDH, QrC, Qgh]
 try simp only [J5, eY]
 all_goals rfl
theorem Qnj (a) {R1 l} [H1 : EncL QX R1 l] : CP T (n + 8) 158 [.imm 3 R1, .i .i64 a] = (QbY l a).map fun r => .tup [.own 3 (r.1.map QX), .b r.2] := by
 obtain ⟨rfl⟩ := H1
 rw [Qf]
 simp -dsimp +contextual only [↓evA, eZ, Nat.reduceAdd, Nat.reduceMul, Nat.reduceBEq, Nat.reduceLeDiff, Nat.reduceLT, Tryz.func158, Tryz.f158, QNe, QuO, Qch, ZJ, QdT]
 try simp only [QbY, eY]
 all_goals first | rfl | (simp +contextual only [evN] <;> rfl)
theorem Qe6 (a2 a3 w) {R1 a} [H1 : EncR QV R1 a] : CP T (n + 10) 102 [.agg R1, .i .i64 a2, .i .i64 a3, .i .i64 w] = (ZS a a2 a3 w).map fun r => .tup [.agg (VU r.1), .b r.2] := by
 obtain ⟨rfl⟩ := H1
 rw [Qf]
 simp -dsimp +contextual (maxSteps := 100000000) only [↓evA, eZ, Nat.reduceAdd, Nat.reduceMul, Nat.reduceBEq, Nat.reduceLeDiff, Nat.reduceLT, Tryz.func102, Tryz.f102, QM5, QtD, Ve, Qnj, QgE]
 try simp only [ZS, eY]
 all_goals rfl
theorem QnT (d) {R1 a} [H1 : EncR Qbm R1 a] : CP T (n + 3) 103 [.agg R1, .i .i64 d] = (QdL a d).map fun r => .i .i64 r := by
 obtain ⟨rfl⟩ := H1
 rw [Qf]
 simp -dsimp +contextual only [↓evA, eZ, Nat.reduceAdd, Nat.reduceMul, Nat.reduceBEq, Nat.reduceLeDiff, Nat.reduceLT, Tryz.func103, Tryz.f103, QKO, QuV, Qej, Q3]
 try simp only [QdL, eY]
 all_goals rfl
theorem Qga {R1 l R2 a} [H1 : EncL Vk R1 l] [H2 : EncR Vk R2 a] : CP T (n + 4) 104 [.imm 4 R1, .agg R2] = (J3 l a).map fun r => .tup [.own 4 (r.1.map Vk), .b r.2] := by
 rcases H1, H2 with ⟨⟨rfl⟩, ⟨rfl⟩⟩
 rw [Qf]
 simp -dsimp +contextual only [↓evA, eZ, Nat.reduceAdd, Nat.reduceMul, Nat.reduceBEq, Nat.reduceLeDiff, Nat.reduceLT, Tryz.func104, Tryz.f104, QIa, Qu0, QdN, QeX]
 try simp only [J3, eY]
 try simp only [List.contains_nil, Bool.not_false, Bool.and_true, VK, List.length_append, List.length_cons, List.length_nil, Nat.zero_add, VL, V0]
 all_goals first | rfl | (simp +contextual only [evN] <;> rfl)
theorem Qkd (a2) {R1 a} [H1 : EncR QV R1 a] : CP T (n + 13) 47 [.agg R1, .i .i64 a2] = (QbJ a a2).map fun r => .tup [.agg (VU r.1), .b r.2] := by
 obtain ⟨rfl⟩ := H1
 rw [Qf]
 simp -dsimp +contextual (maxSteps := 100000000) only [↓evA, eZ, Nat.reduceAdd, Nat.reduceMul, Nat.reduceBEq, Nat.reduceLeDiff, Nat.reduceLT, Tryz.func47, Tryz.f47, QQ1, QCl, srt, Qe2, Qev, Ve, Qah, Qe6, QfX, QnT, Qga, Qay]
 try simp only [QbJ, eY]
 all_goals rfl
theorem QpD {R1 a} [H1 : EncR Ju R1 a] : CP T (n + 2) 200 [.agg R1] = (Qek a).map fun r => .b r := by
 obtain ⟨rfl⟩ := H1
 rw [Qf]
 simp -dsimp +contextual only [↓evA, eZ, Nat.reduceAdd, Nat.reduceMul, Nat.reduceBEq, Nat.reduceLeDiff, Nat.reduceLT, Tryz.func200, Tryz.f200, QNP, Qtv, Q3]
 try simp only [Qek, eY]
 all_goals rfl
theorem QkB {R1 a R2 c} [H1 : EncR Ju R1 a] [H2 : EncR Ju R2 c] : CP T (n + 1) 202 [.agg R1, .iptr 3 [R2] 0 0] = (Qc3 a c).map fun r => .b r := by
 rcases H1, H2 with ⟨⟨rfl⟩, ⟨rfl⟩⟩
 rw [Qf]
 simp -dsimp +contextual only [↓evA, eZ, Nat.reduceAdd, Nat.reduceMul, Nat.reduceBEq, Nat.reduceLeDiff, Nat.reduceLT, Tryz.func202, Tryz.f202, QIg, Quo]
 try simp only [Qc3, eY]
 all_goals rfl
theorem QaV (a a2) {R1 s R2 f} [H1 : EncL Ju R1 s] [H2 : EncR Ju R2 f] : LP T (n + 2) 231 2 (frm [(0, .imm 3 R1), (1, .clo 202 [.iptr 3 [R2] 0 0]), (7, .i .i64 a), (8, .i .i64 a2)]) [] =
  Jd (run (QJ s f a) a2) (fun (zr : Int) => (XE.ret, frm [(4, .i .i64 zr)], [])) (fun (zr : Unit) => (XE.exit 0, frm [], [])) := by
 rcases H1, H2 with ⟨⟨rfl⟩, ⟨rfl⟩⟩
 rw [Qy]
 simp -dsimp only [↓evA, evB, Qo, Tryz.func231, Tryz.f231, QDD, Qp9, TP, TZ, Nat.reduceAdd, Nat.reduceMul, Nat.reduceBEq, Nat.reduceLeDiff, Nat.reduceLT]
 apply Qs a2
 intro a2
 simp -dsimp +contextual only [↓evA, eZ, Nat.reduceAdd, Nat.reduceMul, Nat.reduceBEq, Nat.reduceLeDiff, Nat.reduceLT, QkB]
 try simp only [QJ, eY]
 all_goals rfl
theorem Qby {R1 s R2 c} [H1 : EncL Ju R1 s] [H2 : EncR Ju R2 c] : CP T (n + 3) 231 [.imm 3 R1, .clo 202 [.iptr 3 [R2] 0 0]] = (VH s c).map fun r => .i .i64 r := by
 rcases H1, H2 with ⟨⟨rfl⟩, ⟨rfl⟩⟩
 rw [Qf]
 simp -dsimp +contextual only [↓evA, eZ, Nat.reduceAdd, Nat.reduceMul, Nat.reduceBEq, Nat.reduceLeDiff, Nat.reduceLT, Tryz.func231, Tryz.f231, QDD, Qp9, QaV]
 try simp only [VH, eY]
 all_goals rfl
theorem Qa9 {R1 s R2 c} [H1 : EncL Ju R1 s] [H2 : EncR Ju R2 c] : CP T (n + 4) 201 [.imm 3 R1, .clo 202 [.iptr 3 [R2] 0 0]] = (Q7 s c).map fun r => .b r := by
 rcases H1, H2 with ⟨⟨rfl⟩, ⟨rfl⟩⟩
 rw [Qf]
 simp -dsimp +contextual only [↓evA, eZ, Nat.reduceAdd, Nat.reduceMul, Nat.reduceBEq, Nat.reduceLeDiff, Nat.reduceLT, Tryz.func201, Tryz.f201, QK6, Qtk, Qby]
 try simp only [Q7, eY]
 all_goals rfl
theorem Qjh (a2 a3) {R1 l R2 a} [H1 : EncL Ju R1 l] [H2 : EncL Ju R2 a] : LP T (n + 5) 159 4 (frm [(0, .imm 3 R1), (8, .imm 3 R2), (9, .i .i64 a2), (10, .i .i64 a3)]) [] =
  Jd (run (Zx l a a2) a3) (fun (zr : Bool) => (XE.ret, frm [(2, .b zr)], [])) (fun (zr : Unit) => (XE.exit 0, frm [], [])) := by
 rcases H1, H2 with ⟨⟨rfl⟩, ⟨rfl⟩⟩
 rw [Qy]
 simp -dsimp only [↓evA, evB, Qo, Tryz.func159, Tryz.f159, QDJ, QqD, TP, TZ, Nat.reduceAdd, Nat.reduceMul, Nat.reduceBEq, Nat.reduceLeDiff, Nat.reduceLT]
 apply Qs a3
 intro a3
 simp -dsimp +contextual only [↓evA, eZ, Nat.reduceAdd, Nat.reduceMul, Nat.reduceBEq, Nat.reduceLeDiff, Nat.reduceLT, QpD, Qa9]
 try simp only [Zx, eY]
 all_goals rfl
theorem QmP {R1 l} [H1 : EncL Ju R1 l] : CP T (n + 6) 159 [.imm 3 R1] = (Qd7 l).map fun r => .b r := by
 obtain ⟨rfl⟩ := H1
 rw [Qf]
 simp -dsimp +contextual only [↓evA, eZ, Nat.reduceAdd, Nat.reduceMul, Nat.reduceBEq, Nat.reduceLeDiff, Nat.reduceLT, Tryz.func159, Tryz.f159, QDJ, QqD, Qjh]
 try simp only [Qd7, eY]
 all_goals rfl
theorem Qif {R1 s} [H1 : EncL Ju R1 s] : CP T (n + 1) 203 [.imm 3 R1] = (QbZ s).map fun r => .own 3 (r.map Ju) := by
 obtain ⟨rfl⟩ := H1
 rw [Qf]
 simp -dsimp +contextual only [↓evA, eZ, Nat.reduceAdd, Nat.reduceMul, Nat.reduceBEq, Nat.reduceLeDiff, Nat.reduceLT, Tryz.func203, Tryz.f203, QNk, QuZ]
 try simp only [QbZ, eY]
 all_goals first | rfl | (simp +contextual only [evN] <;> rfl)
theorem Qll (a) : CP T (n + 1) 233 [.i .i64 a] = (Qcq a).map fun r => .b r := by
 rw [Qf]
 simp -dsimp +contextual only [↓evA, eZ, Nat.reduceAdd, Nat.reduceMul, Nat.reduceBEq, Nat.reduceLeDiff, Nat.reduceLT, Tryz.func233, Tryz.f233, QMR, Qut]
 try simp only [Qcq, eY]
 all_goals rfl
theorem QjD (a a2) : CP T (n + 2) 206 [.i .i64 a, .i .i64 a2] = (Qcz a a2).map fun r => .i .i64 r := by
 rw [Qf]
 simp -dsimp +contextual only [↓evA, eZ, Nat.reduceAdd, Nat.reduceMul, Nat.reduceBEq, Nat.reduceLeDiff, Nat.reduceLT, Tryz.func206, Tryz.f206, QPA, Quv, Qll]
 try simp only [Qcz, eY]
 all_goals rfl
theorem QhC {R1 a R2 b} [H1 : EncR Ju R1 a] [H2 : EncR Ju R2 b] : CP T (n + 3) 205 [.agg R1, .agg R2] = (ZO a b).map fun r => .i .i64 r := by
 rcases H1, H2 with ⟨⟨rfl⟩, ⟨rfl⟩⟩
 rw [Qf]
 simp -dsimp +contextual only [↓evA, eZ, Nat.reduceAdd, Nat.reduceMul, Nat.reduceBEq, Nat.reduceLeDiff, Nat.reduceLT, Tryz.func205, Tryz.f205, QJZ, Qu8, QjD]
 try simp only [ZO, eY]
 all_goals rfl
theorem Js (a b i j) {R1 d} [H1 : EncL Ju R1 d] : LP T (n + 4) 244 4 (frm [(0, .sl 0), (1, .i .i64 a), (2, .i .i64 b), (3, .clo 205 []), (8, .i .i64 i), (9, .i .i64 j)]) [some (Ent.lst 3 R1)] =
  (run (Qu a b i) (d, j)).map (fun (zr : (List Bid)) => (XE.exit 2, frm [(0, .sl 0), (1, .i .i64 a), (2, .i .i64 b), (3, .clo 205 []), (8, .i .i64 i)], [some (Ent.lst 3 (zr.map Ju))])) := by
 obtain ⟨rfl⟩ := H1
 rw [Qy]
 simp -dsimp only [↓evA, evB, Qo, Tryz.func244, Tryz.f244, Qwo, QoE, TP, TZ, Nat.reduceAdd, Nat.reduceMul, Nat.reduceBEq, Nat.reduceLeDiff, Nat.reduceLT]
 apply VS d j
 intro d j
 simp -dsimp +contextual only [↓evA, eZ, Nat.reduceAdd, Nat.reduceMul, Nat.reduceBEq, Nat.reduceLeDiff, Nat.reduceLT, QhC]
 try simp only [Qu, eY]
 all_goals rfl
theorem Jt (a b i) {R1 d} [H1 : EncL Ju R1 d] : LP T (n + 5) 244 1 (frm [(0, .sl 0), (1, .i .i64 a), (2, .i .i64 b), (3, .clo 205 []), (8, .i .i64 i)]) [some (Ent.lst 3 R1)] =
  (run (Qn a b) (d, i)).map (fun (zr : (List Bid)) => (XE.exit 0, frm [(0, .sl 0)], [some (Ent.lst 3 (zr.map Ju))])) := by
 obtain ⟨rfl⟩ := H1
 rw [Qy]
 simp -dsimp only [↓evA, evB, Qo, Tryz.func244, Tryz.f244, Qwo, QoE, TP, TZ, Nat.reduceAdd, Nat.reduceMul, Nat.reduceBEq, Nat.reduceLeDiff, Nat.reduceLT]
 apply VS d i
 intro d i
 simp -dsimp +contextual only [↓evA, eZ, Nat.reduceAdd, Nat.reduceMul, Nat.reduceBEq, Nat.reduceLeDiff, Nat.reduceLT, Js]
 try simp only [Qn, eY]
 all_goals rfl
theorem V1 (a b) {R1 d} [H1 : EncL Ju R1 d] : CA T (n + 6) 244 [some (Ent.lst 3 R1)] [.sl 0, .i .i64 a, .i .i64 b, .clo 205 []] = (Ql d a b).map fun r => (.tup [], [some (Ent.lst 3 (r.map Ju))]) := by
 obtain ⟨rfl⟩ := H1
 rw [Qa2]
 simp -dsimp +contextual only [↓evA, eZ, Nat.reduceAdd, Nat.reduceMul, Nat.reduceBEq, Nat.reduceLeDiff, Nat.reduceLT, Tryz.func244, Tryz.f244, Qwo, QoE, Jt]
 try simp only [Ql, eY]
 all_goals rfl
theorem Zs (a b a2 b2) {R1 d} [H1 : EncL Ju R1 d] : LP T (n + 7) 232 2 (frm [(0, .sl 0), (1, .i .i64 a), (2, .clo 205 []), (6, .i .i64 b), (7, .i .i64 a2), (8, .i .i64 b2)]) [some (Ent.lst 3 R1)] =
  (run (Qp a b) (d, a2, b2)).map (fun (zr : (List Bid) × Int) => (XE.exit 0, frm [(0, .sl 0), (1, .i .i64 a), (2, .clo 205 []), (6, .i .i64 b), (7, .i .i64 zr.2)], [some (Ent.lst 3 (zr.1.map Ju))])) := by
 obtain ⟨rfl⟩ := H1
 rw [Qy]
 simp -dsimp only [↓evA, evB, Qo, Tryz.func232, Tryz.f232, Qul, QmQ, TP, TZ, Nat.reduceAdd, Nat.reduceMul, Nat.reduceBEq, Nat.reduceLeDiff, Nat.reduceLT]
 apply Qcp d a2 b2
 intro d a2 b2
 simp -dsimp +contextual only [↓evA, eZ, Nat.reduceAdd, Nat.reduceMul, Nat.reduceBEq, Nat.reduceLeDiff, Nat.reduceLT, srt, V1]
 try simp only [Qp, eY]
 all_goals rfl
theorem Zt (a b a2 b2) {R1 d} [H1 : EncL Ju R1 d] : LP T (n + 2) 232 9 (frm [(0, .sl 0), (1, .i .i64 a), (2, .clo 205 []), (6, .i .i64 b), (7, .i .i64 a2), (8, .i .i64 b2)]) [some (Ent.lst 3 R1)] =
  (run (VC d a b a2 b2) ()).map (fun (zr : Unit) => (XE.exit 4, frm [(0, .sl 0), (1, .i .i64 a), (2, .clo 205 []), (6, .i .i64 b), (7, .i .i64 a2)], [some (Ent.lst 3 (d.map Ju))])) := by
 obtain ⟨rfl⟩ := H1
 rw [Qy]
 simp -dsimp only [↓evA, evB, Qo, Tryz.func232, Tryz.f232, Qul, QmQ, TP, TZ, Nat.reduceAdd, Nat.reduceMul, Nat.reduceBEq, Nat.reduceLeDiff, Nat.reduceLT]
 apply Qze
 simp -dsimp +contextual only [↓evA, eZ, Nat.reduceAdd, Nat.reduceMul, Nat.reduceBEq, Nat.reduceLeDiff, Nat.reduceLT, srt]
 try simp only [VC, eY]
 all_goals rfl
theorem Zv (a b) {R1 d} [H1 : EncL Ju R1 d] : LP T (n + 3) 232 7 (frm [(0, .sl 0), (1, .i .i64 a), (2, .clo 205 []), (6, .i .i64 b)]) [some (Ent.lst 3 R1)] =
  (run (QH d a) b).map (fun (zr : Unit) => (XE.exit 2, frm [(0, .sl 0)], [some (Ent.lst 3 (d.map Ju))])) := by
 obtain ⟨rfl⟩ := H1
 rw [Qy]
 simp -dsimp only [↓evA, evB, Qo, Tryz.func232, Tryz.f232, Qul, QmQ, TP, TZ, Nat.reduceAdd, Nat.reduceMul, Nat.reduceBEq, Nat.reduceLeDiff, Nat.reduceLT]
 apply Qs b
 intro b
 simp -dsimp +contextual only [↓evA, eZ, Nat.reduceAdd, Nat.reduceMul, Nat.reduceBEq, Nat.reduceLeDiff, Nat.reduceLT, srt, Zt]
 try simp only [QH, eY]
 all_goals rfl
theorem Z7 (a) {R1 d} [H1 : EncL Ju R1 d] : CA T (n + 8) 232 [some (Ent.lst 3 R1)] [.sl 0, .i .i64 a, .clo 205 []] = (Vj d a).map fun r => (.tup [], [some (Ent.lst 3 (r.map Ju))]) := by
 obtain ⟨rfl⟩ := H1
 rw [Qa2]
 simp -dsimp +contextual only [↓evA, eZ, Nat.reduceAdd, Nat.reduceMul, Nat.reduceBEq, Nat.reduceLeDiff, Nat.reduceLT, Tryz.func232, Tryz.f232, Qul, QmQ, srt, V1, Zs, Zv]
 try simp only [Vj, eY]
 all_goals rfl
theorem Z1 {R1 a} [H1 : EncL Ju R1 a] : CA T (n + 9) 204 [some (Ent.lst 3 R1)] [.sl 0, .clo 205 []] = (Vf a).map fun r => (.tup [], [some (Ent.lst 3 (r.map Ju))]) := by
 obtain ⟨rfl⟩ := H1
 rw [Qa2]
 simp -dsimp +contextual only [↓evA, eZ, Nat.reduceAdd, Nat.reduceMul, Nat.reduceBEq, Nat.reduceLeDiff, Nat.reduceLT, Tryz.func204, Tryz.f204, QII, Qtp, srt, Z7]
 try simp only [Vf, eY]
 all_goals rfl
theorem Qi0 {R1 l} [H1 : EncL Ju R1 l] : CP T (n + 10) 160 [.imm 3 R1] = (QaZ l).map fun r => .own 3 (r.map Ju) := by
 obtain ⟨rfl⟩ := H1
 rw [Qf]
 simp -dsimp +contextual only [↓evA, eZ, Nat.reduceAdd, Nat.reduceMul, Nat.reduceBEq, Nat.reduceLeDiff, Nat.reduceLT, Tryz.func160, Tryz.f160, QM6, Qun, srt, Qif, Z1]
 try simp only [QaZ, eY]
 all_goals first | rfl | (simp +contextual only [evN] <;> rfl)
theorem QnL {R1 l} [H1 : EncL Ju R1 l] : CP T (n + 11) 105 [.imm 3 R1] = (QdJ l).map fun r => .tup [.i .i64 r.1, .i .i64 r.2] := by
 obtain ⟨rfl⟩ := H1
 rw [Qf]
 simp -dsimp +contextual only [↓evA, eZ, Nat.reduceAdd, Nat.reduceMul, Nat.reduceBEq, Nat.reduceLeDiff, Nat.reduceLT, Tryz.func105, Tryz.f105, QO1, QuK, QmP, Qi0]
 try simp only [QdJ, eY]
 all_goals rfl
theorem QlC (k) : CP T (n + 1) 234 [.i .i64 k] = (Qdy k).map fun r => .i .i64 r := by
 rw [Qf]
 simp -dsimp +contextual only [↓evA, eZ, Nat.reduceAdd, Nat.reduceMul, Nat.reduceBEq, Nat.reduceLeDiff, Nat.reduceLT, Tryz.func234, Tryz.f234, QOy, QtE]
 try simp only [Qdy, eY]
 all_goals rfl
theorem QmY {R1 f} [H1 : EncR QE R1 f] : CP T (n + 4) 207 [.agg R1] = (Qd8 f).map fun r => .i .i64 r := by
 obtain ⟨rfl⟩ := H1
 rw [Qf]
 simp -dsimp +contextual only [↓evA, eZ, Nat.reduceAdd, Nat.reduceMul, Nat.reduceBEq, Nat.reduceLeDiff, Nat.reduceLT, Tryz.func207, Tryz.f207, QLL, Qug, Qe7, QlC]
 try simp only [Qd8, eY]
 all_goals rfl
theorem QpL (a) {R1 f} [H1 : EncR QE R1 f] : CP T (n + 5) 161 [.agg R1, .i .i64 a] = (Qes f a).map fun r => .b r := by
 obtain ⟨rfl⟩ := H1
 rw [Qf]
 simp -dsimp +contextual only [↓evA, eZ, Nat.reduceAdd, Nat.reduceMul, Nat.reduceBEq, Nat.reduceLeDiff, Nat.reduceLT, Tryz.func161, Tryz.f161, QJI, QtQ, Qe7, QmY]
 try simp only [Qes, eY]
 all_goals rfl
theorem Qls {R1 c R2 c2} [H1 : EncR Qj R1 c] [H2 : EncR Qbm R2 c2] : CP T (n + 1) 162 [.agg R1, .iptr 5 [R2] 0 0] = (Qdw c c2).map fun r => .b r := by
 rcases H1, H2 with ⟨⟨rfl⟩, ⟨rfl⟩⟩
 rw [Qf]
 simp -dsimp +contextual only [↓evA, eZ, Nat.reduceAdd, Nat.reduceMul, Nat.reduceBEq, Nat.reduceLeDiff, Nat.reduceLT, Tryz.func162, Tryz.f162, QJt, QtB]
 try simp only [Qdw, eY]
 all_goals rfl
theorem QaM (a a2) {R1 s R2 f} [H1 : EncL Qj R1 s] [H2 : EncR Qbm R2 f] : LP T (n + 2) 154 2 (frm [(0, .imm 5 R1), (1, .clo 162 [.iptr 5 [R2] 0 0]), (7, .i .i64 a), (8, .i .i64 a2)]) [] =
  Jd (run (QG s f a) a2) (fun (zr : Int) => (XE.ret, frm [(4, .i .i64 zr)], [])) (fun (zr : Unit) => (XE.exit 0, frm [], [])) := by
 rcases H1, H2 with ⟨⟨rfl⟩, ⟨rfl⟩⟩
 rw [Qy]
 simp -dsimp only [↓evA, evB, Qo, Tryz.func154, Tryz.f154, Qor, QiW, TP, TZ, Nat.reduceAdd, Nat.reduceMul, Nat.reduceBEq, Nat.reduceLeDiff, Nat.reduceLT]
 apply Qs a2
 intro a2
 simp -dsimp +contextual only [↓evA, eZ, Nat.reduceAdd, Nat.reduceMul, Nat.reduceBEq, Nat.reduceLeDiff, Nat.reduceLT, Qls]
 try simp only [QG, eY]
 all_goals rfl
end Go.Proofs.YtponohekgnklkaaGreat
