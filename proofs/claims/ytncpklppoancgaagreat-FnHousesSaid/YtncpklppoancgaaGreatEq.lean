import Derived.Test.YtncpklppoancgaaGreatEq2
namespace Go.Proofs.YtncpklppoancgaaGreat
open Go Go.Proofs Go.Proofs.YtncpklppoancgaaGreat.Am
set_option maxHeartbeats 4000000
set_option linter.unusedVariables false
set_option linter.unusedSimpArgs false
set_option linter.defProp false
set_option maxRecDepth 100000
variable (n : Nat)
theorem QgM {R1 l} [H1 : EncL QV R1 l] : CP T (n + 2) 182 [.imm 3 R1] = (ZH l).map fun r => .i .i64 r := by
 obtain ⟨rfl⟩ := H1
 rw [Qk]
 simp -dsimp +contextual only [↓evA, eZ, Nat.reduceAdd, Nat.reduceMul, Nat.reduceBEq, Nat.reduceLeDiff, Nat.reduceLT, Tryz.func182, Tryz.f182, QxU, QmT, Qem]
 try simp only [ZH, eY]
 all_goals rfl
theorem Qhg (a) {R1 s} [H1 : EncL QV R1 s] : CP T (n + 12) 110 [.i .i64 a, .imm 3 R1] = (JD a s).map fun r => .tup [.agg (Qae r.1), .b r.2] := by
 obtain ⟨rfl⟩ := H1
 rw [Qk]
 simp -dsimp +contextual (maxSteps := 100000000) only [↓evA, eZ, Nat.reduceAdd, Nat.reduceMul, Nat.reduceBEq, Nat.reduceLeDiff, Nat.reduceLT, Tryz.func110, Tryz.f110, QCb, Qp2, Qds, Qh2, QgM]
 try simp only [JD, eY]
 all_goals rfl
theorem QjE (i) {R1 c} [H1 : EncR Qo R1 c] : CA T (n + 4) 68 [some (Ent.box R1)] [.ptr 0 0 0, .i .i64 i] = (Qa6 c i).map fun r => (.agg (VL r.2), [some (Ent.box (Qo r.1))]) := by
 obtain ⟨rfl⟩ := H1
 rw [Zh]
 simp -dsimp +contextual (maxSteps := 100000000) only [↓evA, eZ, Nat.reduceAdd, Nat.reduceMul, Nat.reduceBEq, Nat.reduceLeDiff, Nat.reduceLT, Tryz.func68, Tryz.f68, QMD, QvM, srt, Qcb, Qg]
 try simp only [Qa6, eY]
 all_goals rfl
theorem Qgn (i) {R1 c R2 l} [H1 : EncR Qo R1 c] [H2 : EncL VL R2 l] : LP T (n + 5) 183 3 (frm [(0, .ptr 0 0 0), (3, .sl 1), (4, .i .i64 i)]) [some (Ent.box R1), some (Ent.lst 8 R2)] =
  (run JV (c, l, i)).map (fun (zr : l1Cur × (List Find)) => (XE.exit 0, frm [(0, .ptr 0 0 0), (3, .sl 1)], [some (Ent.box (Qo zr.1)), some (Ent.lst 8 (zr.2.map VL))])) := by
 rcases H1, H2 with ⟨⟨rfl⟩, ⟨rfl⟩⟩
 rw [QA]
 simp -dsimp only [↓evA, evB, Qm, Tryz.func183, Tryz.f183, Qyj, Qm0, TP, TZ, Nat.reduceAdd, Nat.reduceMul, Nat.reduceBEq, Nat.reduceLeDiff, Nat.reduceLT]
 apply Qa9 c l i
 intro c l i
 simp -dsimp +contextual only [↓evA, eZ, Nat.reduceAdd, Nat.reduceMul, Nat.reduceBEq, Nat.reduceLeDiff, Nat.reduceLT, srt, Qg, QjE]
 try simp only [JV, eY]
 all_goals rfl
theorem Qjs {R1 c} [H1 : EncR Qo R1 c] : CA T (n + 6) 183 [some (Ent.box R1)] [.ptr 0 0 0] = (Qa7 c).map fun r => (.sl 1, [some (Ent.box (Qo r.1)), some (Ent.lst 8 (r.2.map VL))]) := by
 obtain ⟨rfl⟩ := H1
 rw [Zh]
 simp -dsimp +contextual (maxSteps := 100000000) only [↓evA, eZ, Nat.reduceAdd, Nat.reduceMul, Nat.reduceBEq, Nat.reduceLeDiff, Nat.reduceLT, Tryz.func183, Tryz.f183, Qyj, Qm0, srt, Qgn]
 try simp only [Qa7, eY]
 all_goals rfl
theorem QkS {R1 c} [H1 : EncR Qo R1 c] : CA T (n + 5) 184 [some (Ent.box R1)] [.ptr 0 0 0] = (QbB c).map fun r => (.agg (QbH r.2), [some (Ent.box (Qo r.1))]) := by
 obtain ⟨rfl⟩ := H1
 rw [Zh]
 simp -dsimp +contextual (maxSteps := 100000000) only [↓evA, eZ, Nat.reduceAdd, Nat.reduceMul, Nat.reduceBEq, Nat.reduceLeDiff, Nat.reduceLT, Tryz.func184, Tryz.f184, QEA, QpU, srt, Qg, Qcb, Q4, ZV]
 try simp only [QbB, eY]
 all_goals rfl
theorem Qk5 {R1 c} [H1 : EncR Qo R1 c] : CA T (n + 7) 111 [some (Ent.box R1)] [.ptr 0 0 0] = (QbG c).map fun r => (.sl 1, [some (Ent.box (Qo r.1)), some (Ent.lst 8 (r.2.map VL))]) := by
 obtain ⟨rfl⟩ := H1
 rw [Zh]
 simp -dsimp +contextual (maxSteps := 100000000) only [↓evA, eZ, Nat.reduceAdd, Nat.reduceMul, Nat.reduceBEq, Nat.reduceLeDiff, Nat.reduceLT, Tryz.func111, Tryz.f111, QHp, Qpu, srt, Qjs, Qg, QkS, Q4, ZV]
 try simp only [QbG, eY]
 all_goals rfl
theorem QeO (k b i) {R1 l R2 a} [H1 : EncL QK R1 l] [H2 : EncR QK R2 a] : LP T (n + 1) 190 4 (frm [(0, .imm 5 R1), (3, .ptr 0 0 0), (6, .i .i64 k), (7, .b b), (8, .i .i64 i)]) [some (Ent.box R2)] =
  (run (V2 l a) (k, b, i)).map (fun (zr : Int × Bool) => (XE.exit 0, frm [(0, .imm 5 (l.map QK)), (3, .ptr 0 0 0), (6, .i .i64 zr.1), (7, .b zr.2)], [some (Ent.box (QK a))])) := by
 rcases H1, H2 with ⟨⟨rfl⟩, ⟨rfl⟩⟩
 rw [QA]
 simp -dsimp only [↓evA, evB, Qm, Tryz.func190, Tryz.f190, Qxp, QlC, TP, TZ, Nat.reduceAdd, Nat.reduceMul, Nat.reduceBEq, Nat.reduceLeDiff, Nat.reduceLT]
 apply Qa9 k b i
 intro k b i
 simp -dsimp +contextual only [↓evA, eZ, Nat.reduceAdd, Nat.reduceMul, Nat.reduceBEq, Nat.reduceLeDiff, Nat.reduceLT]
 try simp only [V2, eY]
 try simp only [List.contains_nil, Bool.not_false, Bool.and_true, XX, List.length_append, List.length_cons, List.length_nil, Nat.zero_add, JM, Zf]
 all_goals rfl
theorem Qht {R1 l R2 a} [H1 : EncL QK R1 l] [H2 : EncR QK R2 a] : CP T (n + 4) 190 [.imm 5 R1, .agg R2] = (XK l a).map fun r => .tup [.own 5 (r.1.map QK), .b r.2] := by
 rcases H1, H2 with ⟨⟨rfl⟩, ⟨rfl⟩⟩
 rw [Qk]
 simp -dsimp +contextual only [↓evA, eZ, Nat.reduceAdd, Nat.reduceMul, Nat.reduceBEq, Nat.reduceLeDiff, Nat.reduceLT, Tryz.func190, Tryz.f190, Qxp, QlC, QaZ, QeO]
 try simp only [XK, eY]
 try simp only [List.contains_nil, Bool.not_false, Bool.and_true, XX, List.length_append, List.length_cons, List.length_nil, Nat.zero_add, JM, Zf]
 all_goals first | rfl | (simp +contextual only [evN] <;> rfl)
theorem Qen (i i2) {R1 l} [H1 : EncL QK R1 l] : LP T (n + 1) 150 2 (frm [(0, .imm 5 R1), (1, .i .i64 i), (5, .i .i64 i2)]) [] =
  X7 (run (Xr l i) i2) (fun (zr : Int) => (XE.ret, frm [(4, .i .i64 zr)], [])) (fun (zr : Unit) => (XE.exit 0, frm [], [])) := by
 obtain ⟨rfl⟩ := H1
 rw [QA]
 simp -dsimp only [↓evA, evB, Qm, Tryz.func150, Tryz.f150, Qym, Qmz, TP, TZ, Nat.reduceAdd, Nat.reduceMul, Nat.reduceBEq, Nat.reduceLeDiff, Nat.reduceLT]
 apply Qq i2
 intro i2
 simp -dsimp +contextual only [↓evA, eZ, Nat.reduceAdd, Nat.reduceMul, Nat.reduceBEq, Nat.reduceLeDiff, Nat.reduceLT]
 try simp only [Xr, eY]
 all_goals rfl
theorem QgI (i) {R1 l} [H1 : EncL QK R1 l] : CP T (n + 2) 150 [.imm 5 R1, .i .i64 i] = (ZD l i).map fun r => .i .i64 r := by
 obtain ⟨rfl⟩ := H1
 rw [Qk]
 simp -dsimp +contextual only [↓evA, eZ, Nat.reduceAdd, Nat.reduceMul, Nat.reduceBEq, Nat.reduceLeDiff, Nat.reduceLT, Tryz.func150, Tryz.f150, Qym, Qmz, Qen]
 try simp only [ZD, eY]
 all_goals rfl
theorem Qho (i s) {R1 l} [H1 : EncL QK R1 l] : CP T (n + 4) 197 [.imm 5 R1, .i .i64 i, .i .i64 s] = (Jz l i s).map fun r => .tup [.own 5 (r.1.map QK), .b r.2] := by
 obtain ⟨rfl⟩ := H1
 rw [Qk]
 simp -dsimp +contextual only [↓evA, eZ, Nat.reduceAdd, Nat.reduceMul, Nat.reduceBEq, Nat.reduceLeDiff, Nat.reduceLT, Tryz.func197, Tryz.f197, QIf, QpG, QgI, QaZ]
 try simp only [Jz, eY]
 all_goals first | rfl | (simp +contextual only [evN] <;> rfl)
theorem Qfn (i) {R1 c R2 l} [H1 : EncR Qo R1 c] [H2 : EncL QK R2 l] : LP T (n + 5) 185 3 (frm [(0, .ptr 0 0 0), (3, .sl 1), (4, .i .i64 i)]) [some (Ent.box R1), some (Ent.lst 5 R2)] =
  (run Jg (c, l, i)).map (fun (zr : l1Cur × (List Claim)) => (XE.exit 0, frm [(0, .ptr 0 0 0), (3, .sl 1)], [some (Ent.box (Qo zr.1)), some (Ent.lst 5 (zr.2.map QK))])) := by
 rcases H1, H2 with ⟨⟨rfl⟩, ⟨rfl⟩⟩
 rw [QA]
 simp -dsimp only [↓evA, evB, Qm, Tryz.func185, Tryz.f185, Qyb, QlI, TP, TZ, Nat.reduceAdd, Nat.reduceMul, Nat.reduceBEq, Nat.reduceLeDiff, Nat.reduceLT]
 apply Qa9 c l i
 intro c l i
 simp -dsimp +contextual only [↓evA, eZ, Nat.reduceAdd, Nat.reduceMul, Nat.reduceBEq, Nat.reduceLeDiff, Nat.reduceLT, srt, Qg, Qht, Qho]
 try simp only [Jg, eY]
 all_goals rfl
theorem Qil {R1 c} [H1 : EncR Qo R1 c] : CA T (n + 6) 185 [some (Ent.box R1)] [.ptr 0 0 0] = (Qav c).map fun r => (.sl 1, [some (Ent.box (Qo r.1)), some (Ent.lst 5 (r.2.map QK))]) := by
 obtain ⟨rfl⟩ := H1
 rw [Zh]
 simp -dsimp +contextual (maxSteps := 100000000) only [↓evA, eZ, Nat.reduceAdd, Nat.reduceMul, Nat.reduceBEq, Nat.reduceLeDiff, Nat.reduceLT, Tryz.func185, Tryz.f185, Qyb, QlI, srt, Qfn]
 try simp only [Qav, eY]
 all_goals rfl
theorem Qjj {R1 c} [H1 : EncR Qo R1 c] : CA T (n + 7) 112 [some (Ent.box R1)] [.ptr 0 0 0] = (Qbb c).map fun r => (.sl 1, [some (Ent.box (Qo r.1)), some (Ent.lst 5 (r.2.map QK))]) := by
 obtain ⟨rfl⟩ := H1
 rw [Zh]
 simp -dsimp +contextual (maxSteps := 100000000) only [↓evA, eZ, Nat.reduceAdd, Nat.reduceMul, Nat.reduceBEq, Nat.reduceLeDiff, Nat.reduceLT, Tryz.func112, Tryz.f112, QDu, QpF, srt, Qil, Qg, Q4, ZV]
 try simp only [Qbb, eY]
 all_goals rfl
theorem QjF (a) {R1 c} [H1 : EncR Qo R1 c] : CA T (n + 4) 243 [some (Ent.box R1)] [.ptr 0 0 0, .i .i64 a] = (Qba c a).map fun r => (.agg (Vo r.2), [some (Ent.box (Qo r.1))]) := by
 obtain ⟨rfl⟩ := H1
 rw [Zh]
 simp -dsimp +contextual (maxSteps := 100000000) only [↓evA, eZ, Nat.reduceAdd, Nat.reduceMul, Nat.reduceBEq, Nat.reduceLeDiff, Nat.reduceLT, Tryz.func243, Tryz.f243, QFU, Qpl, srt, Qg, Q4]
 try simp only [Qba, eY]
 all_goals rfl
theorem QiU {R1 l R2 a} [H1 : EncL Vo R1 l] [H2 : EncR Vo R2 a] : CP T (n + 8) 242 [.imm 5 R1, .agg R2] = (QaJ l a).map fun r => .tup [.own 5 (r.1.map Vo), .b r.2] := by
 rcases H1, H2 with ⟨⟨rfl⟩, ⟨rfl⟩⟩
 rw [Qk]
 simp -dsimp +contextual only [↓evA, eZ, Nat.reduceAdd, Nat.reduceMul, Nat.reduceBEq, Nat.reduceLeDiff, Nat.reduceLT, Tryz.func242, Tryz.f242, QDe, Qpc, Qc9, QbE]
 try simp only [QaJ, eY]
 try simp only [List.contains_nil, Bool.not_false, Bool.and_true, XX, List.length_append, List.length_cons, List.length_nil, Nat.zero_add, JM, Zf]
 all_goals first | rfl | (simp +contextual only [evN] <;> rfl)
theorem Qgh (a i) {R1 c R2 l} [H1 : EncR Qo R1 c] [H2 : EncL Vo R2 l] : LP T (n + 9) 186 4 (frm [(0, .ptr 0 0 0), (3, .sl 1), (4, .i .i64 a), (5, .i .i64 i)]) [some (Ent.box R1), some (Ent.lst 5 R2)] =
  (run Jb (c, l, a, i)).map (fun (zr : l1Cur × (List Hand)) => (XE.exit 0, frm [(0, .ptr 0 0 0), (3, .sl 1)], [some (Ent.box (Qo zr.1)), some (Ent.lst 5 (zr.2.map Vo))])) := by
 rcases H1, H2 with ⟨⟨rfl⟩, ⟨rfl⟩⟩
 rw [QA]
 simp -dsimp only [↓evA, evB, Qm, Tryz.func186, Tryz.f186, Qys, Qno, TP, TZ, Nat.reduceAdd, Nat.reduceMul, Nat.reduceBEq, Nat.reduceLeDiff, Nat.reduceLT]
 apply Qm3 c l a i
 intro c l a i
 simp -dsimp +contextual only [↓evA, eZ, Nat.reduceAdd, Nat.reduceMul, Nat.reduceBEq, Nat.reduceLeDiff, Nat.reduceLT, srt, QjF, QiU, Qg]
 try simp only [Jb, eY]
 all_goals rfl
theorem Qi0 {R1 c} [H1 : EncR Qo R1 c] : CA T (n + 10) 186 [some (Ent.box R1)] [.ptr 0 0 0] = (QaI c).map fun r => (.sl 1, [some (Ent.box (Qo r.1)), some (Ent.lst 5 (r.2.map Vo))]) := by
 obtain ⟨rfl⟩ := H1
 rw [Zh]
 simp -dsimp +contextual (maxSteps := 100000000) only [↓evA, eZ, Nat.reduceAdd, Nat.reduceMul, Nat.reduceBEq, Nat.reduceLeDiff, Nat.reduceLT, Tryz.func186, Tryz.f186, Qys, Qno, srt, Qg, Qgh]
 try simp only [QaI, eY]
 all_goals rfl
theorem QjH {R1 c} [H1 : EncR Qo R1 c] : CA T (n + 11) 113 [some (Ent.box R1)] [.ptr 0 0 0] = (Qbn c).map fun r => (.sl 1, [some (Ent.box (Qo r.1)), some (Ent.lst 5 (r.2.map Vo))]) := by
 obtain ⟨rfl⟩ := H1
 rw [Zh]
 simp -dsimp +contextual (maxSteps := 100000000) only [↓evA, eZ, Nat.reduceAdd, Nat.reduceMul, Nat.reduceBEq, Nat.reduceLeDiff, Nat.reduceLT, Tryz.func113, Tryz.f113, QHx, Qqs, srt, Qi0, Qg, Q4, ZV]
 try simp only [Qbn, eY]
 all_goals rfl
theorem Qhn {R1 l R2 a} [H1 : EncL VB R1 l] [H2 : EncR VB R2 a] : CP T (n + 4) 187 [.imm 4 R1, .agg R2] = (JA l a).map fun r => .tup [.own 4 (r.1.map VB), .b r.2] := by
 rcases H1, H2 with ⟨⟨rfl⟩, ⟨rfl⟩⟩
 rw [Qk]
 simp -dsimp +contextual only [↓evA, eZ, Nat.reduceAdd, Nat.reduceMul, Nat.reduceBEq, Nat.reduceLeDiff, Nat.reduceLT, Tryz.func187, Tryz.f187, QG4, QpA, QbR]
 try simp only [JA, eY]
 try simp only [List.contains_nil, Bool.not_false, Bool.and_true, XX, List.length_append, List.length_cons, List.length_nil, Nat.zero_add, JM, Zf]
 all_goals first | rfl | (simp +contextual only [evN] <;> rfl)
theorem Qgv (a i) {R1 c R2 l} [H1 : EncR Qo R1 c] [H2 : EncL VB R2 l] : LP T (n + 5) 114 4 (frm [(0, .ptr 0 0 0), (3, .sl 1), (4, .i .i64 a), (5, .i .i64 i)]) [some (Ent.box R1), some (Ent.lst 4 R2)] =
  (run JK (c, l, a, i)).map (fun (zr : l1Cur × (List Entry)) => (XE.exit 0, frm [(0, .ptr 0 0 0), (3, .sl 1)], [some (Ent.box (Qo zr.1)), some (Ent.lst 4 (zr.2.map VB))])) := by
 rcases H1, H2 with ⟨⟨rfl⟩, ⟨rfl⟩⟩
 rw [QA]
 simp -dsimp only [↓evA, evB, Qm, Tryz.func114, Tryz.f114, QxD, Qnl, TP, TZ, Nat.reduceAdd, Nat.reduceMul, Nat.reduceBEq, Nat.reduceLeDiff, Nat.reduceLT]
 apply Qm3 c l a i
 intro c l a i
 simp -dsimp +contextual only [↓evA, eZ, Nat.reduceAdd, Nat.reduceMul, Nat.reduceBEq, Nat.reduceLeDiff, Nat.reduceLT, srt, Qg, Qhn]
 try simp only [JK, eY]
 all_goals rfl
theorem Qjw {R1 c} [H1 : EncR Qo R1 c] : CA T (n + 6) 114 [some (Ent.box R1)] [.ptr 0 0 0] = (Qbe c).map fun r => (.sl 1, [some (Ent.box (Qo r.1)), some (Ent.lst 4 (r.2.map VB))]) := by
 obtain ⟨rfl⟩ := H1
 rw [Zh]
 simp -dsimp +contextual (maxSteps := 100000000) only [↓evA, eZ, Nat.reduceAdd, Nat.reduceMul, Nat.reduceBEq, Nat.reduceLeDiff, Nat.reduceLT, Tryz.func114, Tryz.f114, QxD, Qnl, srt, Qg, Q4, ZV, Qgv]
 try simp only [Qbe, eY]
 all_goals rfl
theorem Qgf (k) {R1 l R2 m} [H1 : EncL VF R1 l] [H2 : EncR VF R2 m] : LP T (n + 1) 202 2 (frm [(0, .imm 2 R1), (3, .ptr 0 0 0), (6, .i .i64 k)]) [some (Ent.box R2)] =
  (run (Xv l m) k).map (fun (zr : Int) => (XE.exit 0, frm [(0, .imm 2 (l.map VF)), (3, .ptr 0 0 0), (6, .i .i64 zr)], [some (Ent.box (VF m))])) := by
 rcases H1, H2 with ⟨⟨rfl⟩, ⟨rfl⟩⟩
 rw [QA]
 simp -dsimp only [↓evA, evB, Qm, Tryz.func202, Tryz.f202, Qxs, Qmq, TP, TZ, Nat.reduceAdd, Nat.reduceMul, Nat.reduceBEq, Nat.reduceLeDiff, Nat.reduceLT]
 apply Qq k
 intro k
 simp -dsimp +contextual only [↓evA, eZ, Nat.reduceAdd, Nat.reduceMul, Nat.reduceBEq, Nat.reduceLeDiff, Nat.reduceLT]
 try simp only [Xv, eY]
 try simp only [List.contains_nil, Bool.not_false, Bool.and_true, XX, List.length_append, List.length_cons, List.length_nil, Nat.zero_add, JM, Zf]
 all_goals rfl
theorem QiO {R1 l R2 m} [H1 : EncL VF R1 l] [H2 : EncR VF R2 m] : CP T (n + 4) 202 [.imm 2 R1, .agg R2] = (QaL l m).map fun r => .tup [.own 2 (r.1.map VF), .b r.2] := by
 rcases H1, H2 with ⟨⟨rfl⟩, ⟨rfl⟩⟩
 rw [Qk]
 simp -dsimp +contextual only [↓evA, eZ, Nat.reduceAdd, Nat.reduceMul, Nat.reduceBEq, Nat.reduceLeDiff, Nat.reduceLT, Tryz.func202, Tryz.f202, Qxs, Qmq, Qbs, Qgf]
 try simp only [QaL, eY]
 try simp only [List.contains_nil, Bool.not_false, Bool.and_true, XX, List.length_append, List.length_cons, List.length_nil, Nat.zero_add, JM, Zf]
 all_goals first | rfl | (simp +contextual only [evN] <;> rfl)
theorem QfD (i) {R1 c R2 l} [H1 : EncR Qo R1 c] [H2 : EncL VF R2 l] : LP T (n + 5) 129 3 (frm [(0, .ptr 0 0 0), (3, .sl 1), (4, .i .i64 i)]) [some (Ent.box R1), some (Ent.lst 2 R2)] =
  (run Jd (c, l, i)).map (fun (zr : l1Cur × (List Mark)) => (XE.exit 0, frm [(0, .ptr 0 0 0), (3, .sl 1)], [some (Ent.box (Qo zr.1)), some (Ent.lst 2 (zr.2.map VF))])) := by
 rcases H1, H2 with ⟨⟨rfl⟩, ⟨rfl⟩⟩
 rw [QA]
 simp -dsimp only [↓evA, evB, Qm, Tryz.func129, Tryz.f129, Qyc, Qnv, TP, TZ, Nat.reduceAdd, Nat.reduceMul, Nat.reduceBEq, Nat.reduceLeDiff, Nat.reduceLT]
 apply Qa9 c l i
 intro c l i
 simp -dsimp +contextual only [↓evA, eZ, Nat.reduceAdd, Nat.reduceMul, Nat.reduceBEq, Nat.reduceLeDiff, Nat.reduceLT, srt, Qg, QiO]
 try simp only [Jd, eY]
 all_goals rfl
theorem Qdh {R1 c} [H1 : EncR Qo R1 c] : CA T (n + 6) 129 [some (Ent.box R1)] [.ptr 0 0 0] = (ZQ c).map fun r => (.sl 1, [some (Ent.box (Qo r.1)), some (Ent.lst 2 (r.2.map VF))]) := by
 obtain ⟨rfl⟩ := H1
 rw [Zh]
 simp -dsimp +contextual (maxSteps := 100000000) only [↓evA, eZ, Nat.reduceAdd, Nat.reduceMul, Nat.reduceBEq, Nat.reduceLeDiff, Nat.reduceLT, Tryz.func129, Tryz.f129, Qyc, Qnv, srt, Qg, QfD]
 try simp only [ZQ, eY]
 all_goals rfl
theorem QjC (a) {R1 c} [H1 : EncR Qo R1 c] : CA T (n + 7) 188 [some (Ent.box R1)] [.ptr 0 0 0, .i .i64 a] = (Qbc c a).map fun r => (.agg [.i .i64 r.2.Thing, .sl 1, .i .i64 r.2.Salt], [some (Ent.box (Qo r.1)), some (Ent.lst 2 (r.2.Marks.map VF))]) := by
 obtain ⟨rfl⟩ := H1
 rw [Zh]
 simp -dsimp +contextual (maxSteps := 100000000) only [↓evA, eZ, Nat.reduceAdd, Nat.reduceMul, Nat.reduceBEq, Nat.reduceLeDiff, Nat.reduceLT, Tryz.func188, Tryz.f188, QDa, Qp9, srt, Qdh, Qg]
 try simp only [Qbc, eY]
 all_goals rfl
theorem Qjl {R1 c} [H1 : EncR Qo R1 c] : CA T (n + 7) 70 [some (Ent.box R1)] [.ptr 0 0 0] = (Qbg c).map fun r => (.sl 1, [some (Ent.box (Qo r.1)), some (Ent.lst 2 (r.2.map VF))]) := by
 obtain ⟨rfl⟩ := H1
 rw [Zh]
 simp -dsimp +contextual (maxSteps := 100000000) only [↓evA, eZ, Nat.reduceAdd, Nat.reduceMul, Nat.reduceBEq, Nat.reduceLeDiff, Nat.reduceLT, Tryz.func70, Tryz.f70, QKu, Qvn, srt, Qdh, Qg, Q4]
 try simp only [Qbg, eY]
 all_goals rfl
theorem QgJ (i) {R1 c R2 l} [H1 : EncR Qo R1 c] [H2 : EncL XA R2 l] : LP T (n + 8) 115 3 (frm [(0, .ptr 0 0 0), (3, .sl 1), (4, .i .i64 i)]) [some (Ent.box R1), some (Ent.lst 3 R2)] =
  (run JS (c, l, i)).map (fun (zr : l1Cur × (List Secret)) => (XE.exit 0, frm [(0, .ptr 0 0 0), (3, .sl 1)], [some (Ent.box (Qo zr.1)), some (Ent.lst 3 (zr.2.map XA))])) := by
 rcases H1, H2 with ⟨⟨rfl⟩, ⟨rfl⟩⟩
 rw [QA]
 simp -dsimp only [↓evA, evB, Qm, Tryz.func115, Tryz.f115, QxV, Qnq, TP, TZ, Nat.reduceAdd, Nat.reduceMul, Nat.reduceBEq, Nat.reduceLeDiff, Nat.reduceLT]
 apply Qa9 c l i
 intro c l i
 simp -dsimp +contextual only [↓evA, eZ, Nat.reduceAdd, Nat.reduceMul, Nat.reduceBEq, Nat.reduceLeDiff, Nat.reduceLT, srt, Qg, QjC]
 try simp only [JS, eY]
 all_goals rfl
theorem QjA {R1 c} [H1 : EncR Qo R1 c] : CA T (n + 9) 115 [some (Ent.box R1)] [.ptr 0 0 0] = (Qbj c).map fun r => (.sl 1, [some (Ent.box (Qo r.1)), some (Ent.lst 3 (r.2.map XA))]) := by
 obtain ⟨rfl⟩ := H1
 rw [Zh]
 simp -dsimp +contextual (maxSteps := 100000000) only [↓evA, eZ, Nat.reduceAdd, Nat.reduceMul, Nat.reduceBEq, Nat.reduceLeDiff, Nat.reduceLT, Tryz.func115, Tryz.f115, QxV, Qnq, srt, Qg, Q4, Qjl, QgJ]
 try simp only [Qbj, eY]
 all_goals rfl
theorem Qcc {R1 c} [H1 : EncR Qo R1 c] : CA T (n + 13) 56 [some (Ent.box R1)] [.ptr 0 0 0] = (J2 c).map fun r => (.agg [.i .i64 r.2.No, .sl 1, .sl 2, .sl 3, .sl 4, .sl 5, .sl 6, .sl 7, .i .i64 r.2.Now], [some (Ent.box (Qo r.1)), some (Ent.lst 8 (r.2.Finds.map VL)), some (Ent.lst 3 (r.2.Secrets.map XA)), some (Ent.lst 3 (r.2.Slots.map QV)), some (Ent.lst 5 (r.2.Claims.map QK)), some (Ent.lst 4 (r.2.Trials.map Xh)), some (Ent.lst 5 (r.2.Chain.map Vo)), some (Ent.lst 4 (r.2.Book.map VB))]) := by
 obtain ⟨rfl⟩ := H1
 rw [Zh]
 simp -dsimp +contextual (maxSteps := 100000000) only [↓evA, eZ, Nat.reduceAdd, Nat.reduceMul, Nat.reduceBEq, Nat.reduceLeDiff, Nat.reduceLT, Tryz.func56, Tryz.f56, QMC, Qw5, srt, Qg, Qc2, Qhg, Q4, Qk5, QeJ, Qjj, QjH, Qjw, QjA]
 try simp only [J2, eY]
 all_goals rfl
theorem Qe3 {R1 c} [H1 : EncL QaQ R1 c] : CP T (n + 14) 53 [.imm 1 R1] = (ZJ c).map fun r => .agg (Qae r) := by
 obtain ⟨rfl⟩ := H1
 rw [Qk]
 simp -dsimp +contextual (maxSteps := 100000000) only [↓evA, eZ, Nat.reduceAdd, Nat.reduceMul, Nat.reduceBEq, Nat.reduceLeDiff, Nat.reduceLT, Tryz.func53, Tryz.f53, QKd, Qw1, srt, Qbx, Qcc]
 try simp only [ZJ, eY]
 all_goals rfl
theorem Qet (axNo axNow i) {R1 axFinds R2 axSecrets R3 axSlots R4 axClaims R5 axTrials R6 axChain R7 axBook R8 s} [H1 : EncL VL R1 axFinds] [H2 : EncL XA R2 axSecrets] [H3 : EncL QV R3 axSlots] [H4 : EncL QK R4 axClaims] [H5 : EncL Xh R5 axTrials] [H6 : EncL Vo R6 axChain] [H7 : EncL VB R7 axBook] [H8 : EncL QV R8 s] : LP T (n + 1) 12 4 (frm [(2, .ptr 0 0 0), (3, .ptr 1 0 0), (4, .sl 8), (5, .i .i64 i)]) [some (Ent.box [.i .i64 0, .nil, .nil, .nil, .nil, .nil, .nil, .nil, .i .i64 0]), some (Ent.box [.i .i64 axNo, .sl 2, .sl 3, .imm 3 R3, .sl 4, .sl 5, .sl 6, .sl 7, .i .i64 axNow]), some (Ent.lst 8 R1), some (Ent.lst 3 R2), some (Ent.lst 5 R4), some (Ent.lst 4 R5), some (Ent.lst 5 R6), some (Ent.lst 4 R7), some (Ent.lst 3 R8)] =
  (run (Vn (⟨axNo, axFinds, axSecrets, axSlots, axClaims, axTrials, axChain, axBook, axNow⟩ : House)) (s, i)).map (fun (zr : (List Slot)) => (XE.exit 0, frm [(2, .ptr 0 0 0), (3, .ptr 1 0 0), (4, .sl 8)], [some (Ent.box [.i .i64 0, .nil, .nil, .nil, .nil, .nil, .nil, .nil, .i .i64 0]), some (Ent.box [.i .i64 axNo, .sl 2, .sl 3, .imm 3 (axSlots.map QV), .sl 4, .sl 5, .sl 6, .sl 7, .i .i64 axNow]), some (Ent.lst 8 (axFinds.map VL)), some (Ent.lst 3 (axSecrets.map XA)), some (Ent.lst 5 (axClaims.map QK)), some (Ent.lst 4 (axTrials.map Xh)), some (Ent.lst 5 (axChain.map Vo)), some (Ent.lst 4 (axBook.map VB)), some (Ent.lst 3 (zr.map QV))])) := by
 rcases H1, H2, H3, H4, H5, H6, H7, H8 with ⟨⟨rfl⟩, ⟨rfl⟩, ⟨rfl⟩, ⟨rfl⟩, ⟨rfl⟩, ⟨rfl⟩, ⟨rfl⟩, ⟨rfl⟩⟩
 rw [QA]
 simp -dsimp only [↓evA, evB, Qm, Tryz.func12, Tryz.f12, QFk, Qtq, TP, TZ, Nat.reduceAdd, Nat.reduceMul, Nat.reduceBEq, Nat.reduceLeDiff, Nat.reduceLT]
 apply VV s i
 intro s i
 simp -dsimp +contextual (maxSteps := 100000000) only [↓evA, eZ, Nat.reduceAdd, Nat.reduceMul, Nat.reduceBEq, Nat.reduceLeDiff, Nat.reduceLT]
 try simp only [Vn, eY]
 all_goals rfl
theorem Qgx {R1 c} [H1 : EncL QaQ R1 c] : CP T (n + 15) 12 [.imm 1 R1] = (ZF c).map fun r => .agg (Qae r) := by
 obtain ⟨rfl⟩ := H1
 rw [Qk]
 simp -dsimp +contextual (maxSteps := 100000000) only [↓evA, eZ, Nat.reduceAdd, Nat.reduceMul, Nat.reduceBEq, Nat.reduceLeDiff, Nat.reduceLT, Tryz.func12, Tryz.f12, QFk, Qtq, Qe3, Qet]
 try simp only [ZF, eY]
 all_goals rfl
theorem Qfa (i) {R1 a R2 b} [H1 : EncL Vj R1 a] [H2 : EncL Vj R2 b] : LP T (n + 1) 13 4 (frm [(0, .imm 1 R1), (1, .imm 1 R2), (5, .i .i64 i)]) [] =
  X7 (run (QaX a b) i) (fun (zr : Bool) => (XE.ret, frm [(4, .b zr)], [])) (fun (zr : Unit) => (XE.exit 0, frm [], [])) := by
 rcases H1, H2 with ⟨⟨rfl⟩, ⟨rfl⟩⟩
 rw [QA]
 simp -dsimp only [↓evA, evB, Qm, Tryz.func13, Tryz.f13, QD4, Qug, TP, TZ, Nat.reduceAdd, Nat.reduceMul, Nat.reduceBEq, Nat.reduceLeDiff, Nat.reduceLT]
 apply Qq i
 intro i
 simp -dsimp +contextual only [↓evA, eZ, Nat.reduceAdd, Nat.reduceMul, Nat.reduceBEq, Nat.reduceLeDiff, Nat.reduceLT]
 try simp only [QaX, eY]
 all_goals rfl
theorem Qhl {R1 a R2 b} [H1 : EncL Vj R1 a] [H2 : EncL Vj R2 b] : CP T (n + 2) 13 [.imm 1 R1, .imm 1 R2] = (Zk a b).map fun r => .b r := by
 rcases H1, H2 with ⟨⟨rfl⟩, ⟨rfl⟩⟩
 rw [Qk]
 simp -dsimp +contextual only [↓evA, eZ, Nat.reduceAdd, Nat.reduceMul, Nat.reduceBEq, Nat.reduceLeDiff, Nat.reduceLT, Tryz.func13, Tryz.f13, QD4, Qug, Qfa]
 try simp only [Zk, eY]
 all_goals rfl
theorem Qff {R1 c} [H1 : EncL QaQ R1 c] : CP T (n + 14) 15 [.imm 1 R1] = (JQ c).map fun r => .tup [.agg (Qae r.1), .i .i64 r.2] := by
 obtain ⟨rfl⟩ := H1
 rw [Qk]
 simp -dsimp +contextual (maxSteps := 100000000) only [↓evA, eZ, Nat.reduceAdd, Nat.reduceMul, Nat.reduceBEq, Nat.reduceLeDiff, Nat.reduceLT, Tryz.func15, Tryz.f15, QKU, Qwf, srt, Qbx, Qcc, Qg]
 try simp only [JQ, eY]
 try simp only [List.contains_nil, Bool.not_false, Bool.and_true, XX, List.length_append, List.length_cons, List.length_nil, Nat.zero_add, JM, Zf]
 all_goals rfl
theorem Qgu (c) {R1 a} [H1 : EncR Xh R1 a] : CP T (n + 1) 118 [.agg R1, .iptr 1 [[.i .i64 c]] 0 0] = (Qaw a c).map fun r => .b r := by
 obtain ⟨rfl⟩ := H1
 rw [Qk]
 simp -dsimp +contextual only [↓evA, eZ, Nat.reduceAdd, Nat.reduceMul, Nat.reduceBEq, Nat.reduceLeDiff, Nat.reduceLT, Tryz.func118, Tryz.f118, QF2, QpH]
 try simp only [Qaw, eY]
 all_goals rfl
theorem JY (f a a2) {R1 s} [H1 : EncL Xh R1 s] : LP T (n + 2) 117 2 (frm [(0, .imm 4 R1), (1, .clo 118 [.iptr 1 [[.i .i64 f]] 0 0]), (7, .i .i64 a), (8, .i .i64 a2)]) [] =
  X7 (run (Qt s f a) a2) (fun (zr : Int) => (XE.ret, frm [(4, .i .i64 zr)], [])) (fun (zr : Unit) => (XE.exit 0, frm [], [])) := by
 obtain ⟨rfl⟩ := H1
 rw [QA]
 simp -dsimp only [↓evA, evB, Qm, Tryz.func117, Tryz.f117, Qxy, QmB, TP, TZ, Nat.reduceAdd, Nat.reduceMul, Nat.reduceBEq, Nat.reduceLeDiff, Nat.reduceLT]
 apply Qq a2
 intro a2
 simp -dsimp +contextual only [↓evA, eZ, Nat.reduceAdd, Nat.reduceMul, Nat.reduceBEq, Nat.reduceLeDiff, Nat.reduceLT, Qgu]
 try simp only [Qt, eY]
 all_goals rfl
theorem Zr (c) {R1 s} [H1 : EncL Xh R1 s] : CP T (n + 3) 117 [.imm 4 R1, .clo 118 [.iptr 1 [[.i .i64 c]] 0 0]] = (Q0 s c).map fun r => .i .i64 r := by
 obtain ⟨rfl⟩ := H1
 rw [Qk]
 simp -dsimp +contextual only [↓evA, eZ, Nat.reduceAdd, Nat.reduceMul, Nat.reduceBEq, Nat.reduceLeDiff, Nat.reduceLT, Tryz.func117, Tryz.f117, Qxy, QmB, JY]
 try simp only [Q0, eY]
 all_goals rfl
theorem QhW (c) {R1 a} [H1 : EncR Vg R1 a] : CP T (n + 4) 58 [.agg R1, .i .i64 c] = (Qbv a c).map fun r => .i .i64 r := by
 obtain ⟨rfl⟩ := H1
 rw [Qk]
 simp -dsimp +contextual (maxSteps := 100000000) only [↓evA, eZ, Nat.reduceAdd, Nat.reduceMul, Nat.reduceBEq, Nat.reduceLeDiff, Nat.reduceLT, Tryz.func58, Tryz.f58, QKh, QwI, Zr]
 try simp only [Qbv, eY]
 all_goals rfl
theorem Qjb (c) {R1 a} [H1 : EncR Vg R1 a] : CP T (n + 5) 16 [.agg R1, .i .i64 c] = (QaA a c).map fun r => .tup [.agg (Xh r.1), .b r.2] := by
 obtain ⟨rfl⟩ := H1
 rw [Qk]
 simp -dsimp +contextual (maxSteps := 100000000) only [↓evA, eZ, Nat.reduceAdd, Nat.reduceMul, Nat.reduceBEq, Nat.reduceLeDiff, Nat.reduceLT, Tryz.func16, Tryz.f16, QI7, Qu5, QhW]
 try simp only [QaA, eY]
 all_goals rfl
theorem QcQ {R1 c} [H1 : EncL QaQ R1 c] : CP T (n + 14) 17 [.imm 1 R1] = (Xf c).map fun r => .tup [.agg (Qae r.1), .agg (Qae r.2)] := by
 obtain ⟨rfl⟩ := H1
 rw [Qk]
 simp -dsimp +contextual (maxSteps := 100000000) only [↓evA, eZ, Nat.reduceAdd, Nat.reduceMul, Nat.reduceBEq, Nat.reduceLeDiff, Nat.reduceLT, Tryz.func17, Tryz.f17, QM2, Qv7, srt, Qbx, Qcc, Qds, Qg]
 try simp only [Xf, eY]
 try simp only [List.contains_nil, Bool.not_false, Bool.and_true, XX, List.length_append, List.length_cons, List.length_nil, Nat.zero_add, JM, Zf]
 all_goals rfl
theorem QcG (a a2) {R1 s R2 s2} [H1 : EncL VL R1 s] [H2 : EncL VL R2 s2] : LP T (n + 1) 60 4 (frm [(0, .imm 8 R1), (1, .imm 8 R2), (12, .i .i64 a), (13, .i .i64 a2)]) [] =
  X7 (run (VG s s2 a) a2) (fun (zr : Bool) => (XE.ret, frm [(4, .b zr)], [])) (fun (zr : Unit) => (XE.exit 0, frm [], [])) := by
 rcases H1, H2 with ⟨⟨rfl⟩, ⟨rfl⟩⟩
 rw [QA]
 simp -dsimp only [↓evA, evB, Qm, Tryz.func60, Tryz.f60, QGs, Qr9, TP, TZ, Nat.reduceAdd, Nat.reduceMul, Nat.reduceBEq, Nat.reduceLeDiff, Nat.reduceLT]
 apply Qq a2
 intro a2
 simp -dsimp +contextual only [↓evA, eZ, Nat.reduceAdd, Nat.reduceMul, Nat.reduceBEq, Nat.reduceLeDiff, Nat.reduceLT]
 try simp only [VG, eY]
 all_goals rfl
theorem Qei {R1 s R2 s2} [H1 : EncL VL R1 s] [H2 : EncL VL R2 s2] : CP T (n + 2) 60 [.imm 8 R1, .imm 8 R2] = (Jl s s2).map fun r => .b r := by
 rcases H1, H2 with ⟨⟨rfl⟩, ⟨rfl⟩⟩
 rw [Qk]
 simp -dsimp +contextual only [↓evA, eZ, Nat.reduceAdd, Nat.reduceMul, Nat.reduceBEq, Nat.reduceLeDiff, Nat.reduceLT, Tryz.func60, Tryz.f60, QGs, Qr9, QcG]
 try simp only [Jl, eY]
 all_goals rfl
theorem QcZ (a a2) {R1 s R2 s2} [H1 : EncL VF R1 s] [H2 : EncL VF R2 s2] : LP T (n + 1) 122 4 (frm [(0, .imm 2 R1), (1, .imm 2 R2), (12, .i .i64 a), (13, .i .i64 a2)]) [] =
  X7 (run (VI s s2 a) a2) (fun (zr : Bool) => (XE.ret, frm [(4, .b zr)], [])) (fun (zr : Unit) => (XE.exit 0, frm [], [])) := by
 rcases H1, H2 with ⟨⟨rfl⟩, ⟨rfl⟩⟩
 rw [QA]
 simp -dsimp only [↓evA, evB, Qm, Tryz.func122, Tryz.f122, QxO, Qnw, TP, TZ, Nat.reduceAdd, Nat.reduceMul, Nat.reduceBEq, Nat.reduceLeDiff, Nat.reduceLT]
 apply Qq a2
 intro a2
 simp -dsimp +contextual only [↓evA, eZ, Nat.reduceAdd, Nat.reduceMul, Nat.reduceBEq, Nat.reduceLeDiff, Nat.reduceLT]
 try simp only [VI, eY]
 all_goals rfl
theorem Qej {R1 s R2 s2} [H1 : EncL VF R1 s] [H2 : EncL VF R2 s2] : CP T (n + 2) 122 [.imm 2 R1, .imm 2 R2] = (Ju s s2).map fun r => .b r := by
 rcases H1, H2 with ⟨⟨rfl⟩, ⟨rfl⟩⟩
 rw [Qk]
 simp -dsimp +contextual only [↓evA, eZ, Nat.reduceAdd, Nat.reduceMul, Nat.reduceBEq, Nat.reduceLeDiff, Nat.reduceLT, Tryz.func122, Tryz.f122, QxO, Qnw, QcZ]
 try simp only [Ju, eY]
 all_goals rfl
theorem Qde {R1 a R2 a2} [H1 : EncR Vb R1 a] [H2 : EncR Vb R2 a2] : CP T (n + 3) 121 [.agg R1, .agg R2] = (JH a a2).map fun r => .b r := by
 rcases H1, H2 with ⟨⟨rfl⟩, ⟨rfl⟩⟩
 rw [Qk]
 simp -dsimp +contextual only [↓evA, eZ, Nat.reduceAdd, Nat.reduceMul, Nat.reduceBEq, Nat.reduceLeDiff, Nat.reduceLT, Tryz.func121, Tryz.f121, QCj, Qqp, Qej]
 try simp only [JH, eY]
 all_goals rfl
theorem X6 (a2 a3) {R1 s R2 a} [H1 : EncL Vb R1 s] [H2 : EncL Vb R2 a] : LP T (n + 4) 120 4 (frm [(1, .imm 3 R1), (2, .clo 121 []), (15, .imm 3 R2), (16, .i .i64 a2), (17, .i .i64 a3)]) [] =
  X7 (run (Ql s a a2) a3) (fun (zr : Bool) => (XE.ret, frm [(6, .b zr)], [])) (fun (zr : Unit) => (XE.exit 0, frm [], [])) := by
 rcases H1, H2 with ⟨⟨rfl⟩, ⟨rfl⟩⟩
 rw [QA]
 simp -dsimp only [↓evA, evB, Qm, Tryz.func120, Tryz.f120, QxW, Qnx, TP, TZ, Nat.reduceAdd, Nat.reduceMul, Nat.reduceBEq, Nat.reduceLeDiff, Nat.reduceLT]
 apply Qq a3
 intro a3
 simp -dsimp +contextual only [↓evA, eZ, Nat.reduceAdd, Nat.reduceMul, Nat.reduceBEq, Nat.reduceLeDiff, Nat.reduceLT, Qde]
 try simp only [Ql, eY]
 all_goals rfl
theorem Jy {R1 s R2 s2} [H1 : EncL Vb R1 s] [H2 : EncL Vb R2 s2] : CP T (n + 5) 120 [.imm 3 R1, .imm 3 R2, .clo 121 []] = (Qv s s2).map fun r => .b r := by
 rcases H1, H2 with ⟨⟨rfl⟩, ⟨rfl⟩⟩
 rw [Qk]
 simp -dsimp +contextual only [↓evA, eZ, Nat.reduceAdd, Nat.reduceMul, Nat.reduceBEq, Nat.reduceLeDiff, Nat.reduceLT, Tryz.func120, Tryz.f120, QxW, Qnx, X6]
 try simp only [Qv, eY]
 all_goals rfl
theorem Qep {R1 a R2 b} [H1 : EncL Vb R1 a] [H2 : EncL Vb R2 b] : CP T (n + 6) 61 [.imm 3 R1, .imm 3 R2] = (Xs a b).map fun r => .b r := by
 rcases H1, H2 with ⟨⟨rfl⟩, ⟨rfl⟩⟩
 rw [Qk]
 simp -dsimp +contextual only [↓evA, eZ, Nat.reduceAdd, Nat.reduceMul, Nat.reduceBEq, Nat.reduceLeDiff, Nat.reduceLT, Tryz.func61, Tryz.f61, QNg, QwE, Jy]
 try simp only [Xs, eY]
 all_goals rfl
theorem Qc0 (a a2) {R1 s R2 s2} [H1 : EncL QV R1 s] [H2 : EncL QV R2 s2] : LP T (n + 1) 62 4 (frm [(0, .imm 3 R1), (1, .imm 3 R2), (12, .i .i64 a), (13, .i .i64 a2)]) [] =
  X7 (run (VC s s2 a) a2) (fun (zr : Bool) => (XE.ret, frm [(4, .b zr)], [])) (fun (zr : Unit) => (XE.exit 0, frm [], [])) := by
 rcases H1, H2 with ⟨⟨rfl⟩, ⟨rfl⟩⟩
 rw [QA]
 simp -dsimp only [↓evA, evB, Qm, Tryz.func62, Tryz.f62, QFz, Qsc, TP, TZ, Nat.reduceAdd, Nat.reduceMul, Nat.reduceBEq, Nat.reduceLeDiff, Nat.reduceLT]
 apply Qq a2
 intro a2
 simp -dsimp +contextual only [↓evA, eZ, Nat.reduceAdd, Nat.reduceMul, Nat.reduceBEq, Nat.reduceLeDiff, Nat.reduceLT]
 try simp only [VC, eY]
 all_goals rfl
theorem QeC {R1 s R2 s2} [H1 : EncL QV R1 s] [H2 : EncL QV R2 s2] : CP T (n + 2) 62 [.imm 3 R1, .imm 3 R2] = (Jn s s2).map fun r => .b r := by
 rcases H1, H2 with ⟨⟨rfl⟩, ⟨rfl⟩⟩
 rw [Qk]
 simp -dsimp +contextual only [↓evA, eZ, Nat.reduceAdd, Nat.reduceMul, Nat.reduceBEq, Nat.reduceLeDiff, Nat.reduceLT, Tryz.func62, Tryz.f62, QFz, Qsc, Qc0]
 try simp only [Jn, eY]
 all_goals rfl
theorem QcA (a a2) {R1 s R2 s2} [H1 : EncL QK R1 s] [H2 : EncL QK R2 s2] : LP T (n + 1) 63 4 (frm [(0, .imm 5 R1), (1, .imm 5 R2), (12, .i .i64 a), (13, .i .i64 a2)]) [] =
  X7 (run (Vr s s2 a) a2) (fun (zr : Bool) => (XE.ret, frm [(4, .b zr)], [])) (fun (zr : Unit) => (XE.exit 0, frm [], [])) := by
 rcases H1, H2 with ⟨⟨rfl⟩, ⟨rfl⟩⟩
 rw [QA]
 simp -dsimp only [↓evA, evB, Qm, Tryz.func63, Tryz.f63, QCR, Qsk, TP, TZ, Nat.reduceAdd, Nat.reduceMul, Nat.reduceBEq, Nat.reduceLeDiff, Nat.reduceLT]
 apply Qq a2
 intro a2
 simp -dsimp +contextual only [↓evA, eZ, Nat.reduceAdd, Nat.reduceMul, Nat.reduceBEq, Nat.reduceLeDiff, Nat.reduceLT]
 try simp only [Vr, eY]
 all_goals rfl
theorem Qdv {R1 s R2 s2} [H1 : EncL QK R1 s] [H2 : EncL QK R2 s2] : CP T (n + 2) 63 [.imm 5 R1, .imm 5 R2] = (XZ s s2).map fun r => .b r := by
 rcases H1, H2 with ⟨⟨rfl⟩, ⟨rfl⟩⟩
 rw [Qk]
 simp -dsimp +contextual only [↓evA, eZ, Nat.reduceAdd, Nat.reduceMul, Nat.reduceBEq, Nat.reduceLeDiff, Nat.reduceLT, Tryz.func63, Tryz.f63, QCR, Qsk, QcA]
 try simp only [XZ, eY]
 all_goals rfl
theorem Qcm (a a2) {R1 s R2 s2} [H1 : EncL Xh R1 s] [H2 : EncL Xh R2 s2] : LP T (n + 1) 64 4 (frm [(0, .imm 4 R1), (1, .imm 4 R2), (12, .i .i64 a), (13, .i .i64 a2)]) [] =
  X7 (run (Vq s s2 a) a2) (fun (zr : Bool) => (XE.ret, frm [(4, .b zr)], [])) (fun (zr : Unit) => (XE.exit 0, frm [], [])) := by
 rcases H1, H2 with ⟨⟨rfl⟩, ⟨rfl⟩⟩
 rw [QA]
 simp -dsimp only [↓evA, evB, Qm, Tryz.func64, Tryz.f64, QFJ, QrT, TP, TZ, Nat.reduceAdd, Nat.reduceMul, Nat.reduceBEq, Nat.reduceLeDiff, Nat.reduceLT]
 apply Qq a2
 intro a2
 simp -dsimp +contextual only [↓evA, eZ, Nat.reduceAdd, Nat.reduceMul, Nat.reduceBEq, Nat.reduceLeDiff, Nat.reduceLT]
 try simp only [Vq, eY]
 all_goals rfl
theorem QdU {R1 s R2 s2} [H1 : EncL Xh R1 s] [H2 : EncL Xh R2 s2] : CP T (n + 2) 64 [.imm 4 R1, .imm 4 R2] = (XW s s2).map fun r => .b r := by
 rcases H1, H2 with ⟨⟨rfl⟩, ⟨rfl⟩⟩
 rw [Qk]
 simp -dsimp +contextual only [↓evA, eZ, Nat.reduceAdd, Nat.reduceMul, Nat.reduceBEq, Nat.reduceLeDiff, Nat.reduceLT, Tryz.func64, Tryz.f64, QFJ, QrT, Qcm]
 try simp only [XW, eY]
 all_goals rfl
theorem QcM (a a2) {R1 s R2 s2} [H1 : EncL Vo R1 s] [H2 : EncL Vo R2 s2] : LP T (n + 1) 65 4 (frm [(0, .imm 5 R1), (1, .imm 5 R2), (12, .i .i64 a), (13, .i .i64 a2)]) [] =
  X7 (run (VD s s2 a) a2) (fun (zr : Bool) => (XE.ret, frm [(4, .b zr)], [])) (fun (zr : Unit) => (XE.exit 0, frm [], [])) := by
 rcases H1, H2 with ⟨⟨rfl⟩, ⟨rfl⟩⟩
 rw [QA]
 simp -dsimp only [↓evA, evB, Qm, Tryz.func65, Tryz.f65, QDz, Quy, TP, TZ, Nat.reduceAdd, Nat.reduceMul, Nat.reduceBEq, Nat.reduceLeDiff, Nat.reduceLT]
 apply Qq a2
 intro a2
 simp -dsimp +contextual only [↓evA, eZ, Nat.reduceAdd, Nat.reduceMul, Nat.reduceBEq, Nat.reduceLeDiff, Nat.reduceLT]
 try simp only [VD, eY]
 all_goals rfl
theorem Qel {R1 s R2 s2} [H1 : EncL Vo R1 s] [H2 : EncL Vo R2 s2] : CP T (n + 2) 65 [.imm 5 R1, .imm 5 R2] = (Js s s2).map fun r => .b r := by
 rcases H1, H2 with ⟨⟨rfl⟩, ⟨rfl⟩⟩
 rw [Qk]
 simp -dsimp +contextual only [↓evA, eZ, Nat.reduceAdd, Nat.reduceMul, Nat.reduceBEq, Nat.reduceLeDiff, Nat.reduceLT, Tryz.func65, Tryz.f65, QDz, Quy, QcM]
 try simp only [Js, eY]
 all_goals rfl
theorem Qcn (a a2) {R1 s R2 s2} [H1 : EncL VB R1 s] [H2 : EncL VB R2 s2] : LP T (n + 1) 66 4 (frm [(0, .imm 4 R1), (1, .imm 4 R2), (12, .i .i64 a), (13, .i .i64 a2)]) [] =
  X7 (run (Vp s s2 a) a2) (fun (zr : Bool) => (XE.ret, frm [(4, .b zr)], [])) (fun (zr : Unit) => (XE.exit 0, frm [], [])) := by
 rcases H1, H2 with ⟨⟨rfl⟩, ⟨rfl⟩⟩
 rw [QA]
 simp -dsimp only [↓evA, evB, Qm, Tryz.func66, Tryz.f66, QDW, QrN, TP, TZ, Nat.reduceAdd, Nat.reduceMul, Nat.reduceBEq, Nat.reduceLeDiff, Nat.reduceLT]
 apply Qq a2
 intro a2
 simp -dsimp +contextual only [↓evA, eZ, Nat.reduceAdd, Nat.reduceMul, Nat.reduceBEq, Nat.reduceLeDiff, Nat.reduceLT]
 try simp only [Vp, eY]
 all_goals rfl
theorem QdT {R1 s R2 s2} [H1 : EncL VB R1 s] [H2 : EncL VB R2 s2] : CP T (n + 2) 66 [.imm 4 R1, .imm 4 R2] = (XY s s2).map fun r => .b r := by
 rcases H1, H2 with ⟨⟨rfl⟩, ⟨rfl⟩⟩
 rw [Qk]
 simp -dsimp +contextual only [↓evA, eZ, Nat.reduceAdd, Nat.reduceMul, Nat.reduceBEq, Nat.reduceLeDiff, Nat.reduceLT, Tryz.func66, Tryz.f66, QDW, QrN, Qcn]
 try simp only [XY, eY]
 all_goals rfl
theorem QeS {R1 a R2 b} [H1 : EncR Vg R1 a] [H2 : EncR Vg R2 b] : CP T (n + 7) 18 [.agg R1, .agg R2] = (QM a b).map fun r => .b r := by
 rcases H1, H2 with ⟨⟨rfl⟩, ⟨rfl⟩⟩
 rw [Qk]
 simp -dsimp +contextual (maxSteps := 100000000) only [↓evA, eZ, Nat.reduceAdd, Nat.reduceMul, Nat.reduceBEq, Nat.reduceLeDiff, Nat.reduceLT, Tryz.func18, Tryz.f18, QKf, QuS, Qei, Qep, QeC, Qdv, QdU, Qel, QdT]
 try simp only [QM, eY]
 all_goals rfl
theorem Qhh {R1 c} [H1 : EncL QaQ R1 c] : CP T (n + 16) 3 [.imm 1 R1] = (Qa3 c).map fun r => .b r := by
 obtain ⟨rfl⟩ := H1
 rw [Qk]
 simp -dsimp +contextual only [↓evA, eZ, Nat.reduceAdd, Nat.reduceMul, Nat.reduceBEq, Nat.reduceLeDiff, Nat.reduceLT, Tryz.func3, Tryz.f3, Aa3, An3, QoY, Qeg, Qhq, Qc8, QgP, Qdu, QkC, Qgx, Qdk, Qhl, Qff, Qjb, QcQ, QeS]
 try simp only [Qa3, eY]
 all_goals rfl
end Go.Proofs.YtncpklppoancgaaGreat
