import Derived.Test.YtkbilciipmijjaaGreatEq1
namespace Go.Proofs.YtkbilciipmijjaaGreat
open Go Go.Proofs Go.Proofs.YtkbilciipmijjaaGreat.Am
set_option maxHeartbeats 4000000
set_option linter.unusedVariables false
set_option linter.unusedSimpArgs false
set_option linter.defProp false
set_option maxRecDepth 100000
variable (n : Nat)
theorem Qma {R1 c} [H1 : EncR VP R1 c] : CA T (n + 8) 172 [some (Ent.box R1)] [.ptr 0 0 0] = (QcI c).map fun r => (.agg [.i .i64 r.2.Kind, .i .i64 r.2.Find.Thing.Id, .i .i64 r.2.Find.Thing.Kind, .i .i64 r.2.Find.Thing.Colour, .i .i64 r.2.Find.Thing.Size, .i .i64 r.2.Find.Thing.Worth, .i .i64 r.2.Find.Place, .i .i64 r.2.Find.At, .i .i64 r.2.Find.Finder, .sl 1, .i .i64 r.2.Id, .i .i64 r.2.Who, .i .i64 r.2.N, .sl 2], [some (Ent.box (VP r.1)), some (Ent.lst 2 (r.2.Marks.map Xu)), some (Ent.lst 3 (r.2.Bids.map Qbc))]) := by
 obtain ⟨rfl⟩ := H1
 rw [Qer]
 simp -dsimp +contextual (maxSteps := 100000000) only [↓evA, eZ, Nat.reduceAdd, Nat.reduceMul, Nat.reduceBEq, Nat.reduceLeDiff, Nat.reduceLT, Tryz.func172, Tryz.f172, QGe, QrF, srt, QcV, VH, Qf1, Qmb]
 try simp only [QcI, eY]
 all_goals rfl
theorem QhF (i) {R1 c R2 l} [H1 : EncR VP R1 c] [H2 : EncL QeG R2 l] : LP T (n + 9) 103 3 (frm [(0, .ptr 0 0 0), (5, .sl 1), (6, .i .i64 i)]) [some (Ent.box R1), some (Ent.lst 14 R2)] =
  (run Za (c, l, i)).map (fun (zr : l1Cur × (List Event)) => (XE.exit 0, frm [(0, .ptr 0 0 0), (5, .sl 1)], [some (Ent.box (VP zr.1)), some (Ent.lst 14 (zr.2.map QeG))])) := by
 rcases H1, H2 with ⟨⟨rfl⟩, ⟨rfl⟩⟩
 rw [QB]
 simp -dsimp only [↓evA, evB, Qm, Tryz.func103, Tryz.f103, QAk, QpL, TP, TZ, Nat.reduceAdd, Nat.reduceMul, Nat.reduceBEq, Nat.reduceLeDiff, Nat.reduceLT]
 apply Qf6 c l i
 intro c l i
 simp -dsimp +contextual only [↓evA, eZ, Nat.reduceAdd, Nat.reduceMul, Nat.reduceBEq, Nat.reduceLeDiff, Nat.reduceLT, srt, Qma]
 try simp only [Za, eY]
 all_goals rfl
theorem Qlh (m) {R1 c} [H1 : EncR VP R1 c] : CA T (n + 10) 103 [some (Ent.box R1)] [.ptr 0 0 0, .i .i64 m] = (Qb9 c m).map fun r => (.sl 1, [some (Ent.box (VP r.1)), some (Ent.lst 14 (r.2.map QeG))]) := by
 obtain ⟨rfl⟩ := H1
 rw [Qer]
 simp -dsimp +contextual (maxSteps := 100000000) only [↓evA, eZ, Nat.reduceAdd, Nat.reduceMul, Nat.reduceBEq, Nat.reduceLeDiff, Nat.reduceLT, Tryz.func103, Tryz.f103, QAk, QpL, srt, Qf1, VH, QhF]
 try simp only [Qb9, eY]
 all_goals rfl
theorem Qiz (k) {R1 l R2 f} [H1 : EncL Vk R1 l] [H2 : EncR Vk R2 f] : LP T (n + 1) 289 2 (frm [(0, .imm 8 R1), (3, .ptr 0 0 0), (6, .i .i64 k)]) [some (Ent.box R2)] =
  (run (J4 l f) k).map (fun (zr : Int) => (XE.exit 0, frm [(0, .imm 8 (l.map Vk)), (3, .ptr 0 0 0), (6, .i .i64 zr)], [some (Ent.box (Vk f))])) := by
 rcases H1, H2 with ⟨⟨rfl⟩, ⟨rfl⟩⟩
 rw [QB]
 simp -dsimp only [↓evA, evB, Qm, Tryz.func289, Tryz.f289, QA6, QpH, TP, TZ, Nat.reduceAdd, Nat.reduceMul, Nat.reduceBEq, Nat.reduceLeDiff, Nat.reduceLT]
 apply Qq k
 intro k
 simp -dsimp +contextual only [↓evA, eZ, Nat.reduceAdd, Nat.reduceMul, Nat.reduceBEq, Nat.reduceLeDiff, Nat.reduceLT]
 try simp only [J4, eY]
 try simp only [List.contains_nil, Bool.not_false, Bool.and_true, VG, List.length_append, List.length_cons, List.length_nil, Nat.zero_add, VT, Xj]
 all_goals rfl
theorem QlN {R1 l R2 f} [H1 : EncL Vk R1 l] [H2 : EncR Vk R2 f] : CP T (n + 6) 289 [.imm 8 R1, .agg R2] = (QaX l f).map fun r => .tup [.own 8 (r.1.map Vk), .b r.2] := by
 rcases H1, H2 with ⟨⟨rfl⟩, ⟨rfl⟩⟩
 rw [Qg]
 simp -dsimp +contextual only [↓evA, eZ, Nat.reduceAdd, Nat.reduceMul, Nat.reduceBEq, Nat.reduceLeDiff, Nat.reduceLT, Tryz.func289, Tryz.f289, QA6, QpH, Qfh, Qiz]
 try simp only [QaX, eY]
 try simp only [List.contains_nil, Bool.not_false, Bool.and_true, VG, List.length_append, List.length_cons, List.length_nil, Nat.zero_add, VT, Xj]
 all_goals first | rfl | (simp +contextual only [evN] <;> rfl)
theorem Qgy (k) {R1 l R2 a} [H1 : EncL VF R1 l] [H2 : EncR VF R2 a] : LP T (n + 1) 290 2 (frm [(0, .imm 3 R1), (3, .ptr 0 0 0), (6, .i .i64 k)]) [some (Ent.box R2)] =
  (run (Ji l a) k).map (fun (zr : Int) => (XE.exit 0, frm [(0, .imm 3 (l.map VF)), (3, .ptr 0 0 0), (6, .i .i64 zr)], [some (Ent.box (VF a))])) := by
 rcases H1, H2 with ⟨⟨rfl⟩, ⟨rfl⟩⟩
 rw [QB]
 simp -dsimp only [↓evA, evB, Qm, Tryz.func290, Tryz.f290, QAI, QoP, TP, TZ, Nat.reduceAdd, Nat.reduceMul, Nat.reduceBEq, Nat.reduceLeDiff, Nat.reduceLT]
 apply Qq k
 intro k
 simp -dsimp +contextual only [↓evA, eZ, Nat.reduceAdd, Nat.reduceMul, Nat.reduceBEq, Nat.reduceLeDiff, Nat.reduceLT]
 try simp only [Ji, eY]
 try simp only [List.contains_nil, Bool.not_false, Bool.and_true, VG, List.length_append, List.length_cons, List.length_nil, Nat.zero_add, VT, Xj]
 all_goals rfl
theorem Qjc {R1 l R2 a} [H1 : EncL VF R1 l] [H2 : EncR VF R2 a] : CP T (n + 6) 290 [.imm 3 R1, .agg R2] = (ZR l a).map fun r => .tup [.own 3 (r.1.map Xg), .b r.2] := by
 rcases H1, H2 with ⟨⟨rfl⟩, ⟨rfl⟩⟩
 rw [Qg]
 simp -dsimp +contextual only [↓evA, eZ, Nat.reduceAdd, Nat.reduceMul, Nat.reduceBEq, Nat.reduceLeDiff, Nat.reduceLT, Tryz.func290, Tryz.f290, QAI, QoP, QfG, QdL, Qgy]
 try simp only [ZR, eY]
 try simp only [List.contains_nil, Bool.not_false, Bool.and_true, VG, List.length_append, List.length_cons, List.length_nil, Nat.zero_add, VT, Xj]
 all_goals first | rfl | (simp +contextual only [evN] <;> rfl)
theorem Qe4 (s k i) {R1 l} [H1 : EncL Vj R1 l] : LP T (n + 1) 278 3 (frm [(0, .imm 3 R1), (1, .i .i64 s), (5, .i .i64 k), (6, .i .i64 i)]) [] =
  (run (QL l s) (k, i)).map (fun (zr : Int) => (XE.exit 0, frm [(0, .imm 3 (l.map Vj)), (5, .i .i64 zr)], [])) := by
 obtain ⟨rfl⟩ := H1
 rw [QB]
 simp -dsimp only [↓evA, evB, Qm, Tryz.func278, Tryz.f278, QAa, QoE, TP, TZ, Nat.reduceAdd, Nat.reduceMul, Nat.reduceBEq, Nat.reduceLeDiff, Nat.reduceLT]
 apply Vh k i
 intro k i
 simp -dsimp +contextual only [↓evA, eZ, Nat.reduceAdd, Nat.reduceMul, Nat.reduceBEq, Nat.reduceLeDiff, Nat.reduceLT]
 try simp only [QL, eY]
 all_goals rfl
theorem Qgs (s) {R1 l} [H1 : EncL Vj R1 l] : CP T (n + 2) 278 [.imm 3 R1, .i .i64 s] = (Zj l s).map fun r => .i .i64 r := by
 obtain ⟨rfl⟩ := H1
 rw [Qg]
 simp -dsimp +contextual only [↓evA, eZ, Nat.reduceAdd, Nat.reduceMul, Nat.reduceBEq, Nat.reduceLeDiff, Nat.reduceLT, Tryz.func278, Tryz.f278, QAa, QoE, Qe4]
 try simp only [Zj, eY]
 all_goals rfl
theorem QiC (s i) {R1 a R2 o} [H1 : EncR Qdp R1 a] [H2 : EncL Vj R2 o] : LP T (n + 1) 221 6 (frm [(3, .ptr 0 0 0), (6, .sl 1), (7, .i .i64 s), (8, .i .i64 i)]) [some (Ent.box R1), some (Ent.lst 3 R2)] =
  (run (V1 a s) (o, i)).map (fun (zr : (List Slot)) => (XE.exit 0, frm [(6, .sl 0)], [some (Ent.lst 3 (zr.map Vj))])) := by
 rcases H1, H2 with ⟨⟨rfl⟩, ⟨rfl⟩⟩
 rw [QB]
 simp -dsimp only [↓evA, evB, Qm, Tryz.func221, Tryz.f221, QAg, Qpj, TP, TZ, Nat.reduceAdd, Nat.reduceMul, Nat.reduceBEq, Nat.reduceLeDiff, Nat.reduceLT]
 apply Vh o i
 intro o i
 simp -dsimp +contextual only [↓evA, eZ, Nat.reduceAdd, Nat.reduceMul, Nat.reduceBEq, Nat.reduceLeDiff, Nat.reduceLT]
 try simp only [V1, eY]
 all_goals rfl
theorem Qk6 {R1 l R2 a} [H1 : EncL Vj R1 l] [H2 : EncR Qdp R2 a] : CP T (n + 4) 221 [.imm 3 R1, .agg R2] = (QbZ l a).map fun r => .tup [.own 3 (r.1.map Vj), .b r.2] := by
 rcases H1, H2 with ⟨⟨rfl⟩, ⟨rfl⟩⟩
 rw [Qg]
 simp -dsimp +contextual only [↓evA, eZ, Nat.reduceAdd, Nat.reduceMul, Nat.reduceBEq, Nat.reduceLeDiff, Nat.reduceLT, Tryz.func221, Tryz.f221, QAg, Qpj, Qgs, QcM, Qdb, Qcv, QiC]
 try simp only [QbZ, eY]
 all_goals first | rfl | (simp +contextual only [evN] <;> rfl)
theorem Qdf {R1 l R2 a} [H1 : EncL VE R1 l] [H2 : EncR VE R2 a] : CP T (n + 8) 167 [.imm 5 R1, .agg R2] = (Z9 l a).map fun r => .tup [.own 5 (r.1.map VE), .b r.2] := by
 rcases H1, H2 with ⟨⟨rfl⟩, ⟨rfl⟩⟩
 rw [Qg]
 simp -dsimp +contextual only [↓evA, eZ, Nat.reduceAdd, Nat.reduceMul, Nat.reduceBEq, Nat.reduceLeDiff, Nat.reduceLT, Tryz.func167, Tryz.f167, QLb, Qr5, Qff, Qdc]
 try simp only [Z9, eY]
 try simp only [List.contains_nil, Bool.not_false, Bool.and_true, VG, List.length_append, List.length_cons, List.length_nil, Nat.zero_add, VT, Xj]
 all_goals first | rfl | (simp +contextual only [evN] <;> rfl)
theorem JY (oxNo oxNow o2) {R1 a R2 oxFinds R3 oxSecrets R4 oxSlots R5 oxClaims R6 oxTrials R7 oxChain R8 oxBook} [H1 : EncR QM R1 a] [H2 : EncL Vk R2 oxFinds] [H3 : EncL Xg R3 oxSecrets] [H4 : EncL Vj R4 oxSlots] [H5 : EncL QC R5 oxClaims] [H6 : EncL XT R6 oxTrials] [H7 : EncL VE R7 oxChain] [H8 : EncL Vw R8 oxBook] : CM T (n + 12) 291 [some (Ent.lst 8 R2), some (Ent.lst 3 R3), some (Ent.lst 3 R4), some (Ent.lst 5 R5), some (Ent.lst 4 R6), some (Ent.lst 5 R7), some (Ent.lst 4 R8)] [.agg R1, .agg [.i .i64 oxNo, .sl 0, .sl 1, .sl 2, .sl 3, .sl 4, .sl 5, .sl 6, .i .i64 oxNow], .b o2] = (Qh a (⟨oxNo, oxFinds, oxSecrets, oxSlots, oxClaims, oxTrials, oxChain, oxBook, oxNow⟩ : House) o2).map fun r => .tup [.agg (Jb r.1), .b r.2] := by
 rcases H1, H2, H3, H4, H5, H6, H7, H8 with ⟨⟨rfl⟩, ⟨rfl⟩, ⟨rfl⟩, ⟨rfl⟩, ⟨rfl⟩, ⟨rfl⟩, ⟨rfl⟩, ⟨rfl⟩⟩
 rw [Qz3]
 simp -dsimp +contextual (maxSteps := 100000000) only [↓evA, eZ, Nat.reduceAdd, Nat.reduceMul, Nat.reduceBEq, Nat.reduceLeDiff, Nat.reduceLT, Tryz.func291, Tryz.f291, QFu, Qr9, ZV, Vr]
 try simp only [Qh, eY]
 all_goals rfl
theorem Qj6 (a4) {R1 a R2 a2 R3 a3} [H1 : EncR QM R1 a] [H2 : EncR Vk R2 a2] [H3 : EncL Xu R3 a3] : CP T (n + 13) 241 [.agg R1, .agg R2, .imm 2 R3, .i .i64 a4] = (Qbi a a2 a3 a4).map fun r => .tup [.agg (Jb r.1), .b r.2] := by
 rcases H1, H2, H3 with ⟨⟨rfl⟩, ⟨rfl⟩, ⟨rfl⟩⟩
 rw [Qg]
 simp -dsimp +contextual (maxSteps := 100000000) only [↓evA, eZ, Nat.reduceAdd, Nat.reduceMul, Nat.reduceBEq, Nat.reduceLeDiff, Nat.reduceLT, Tryz.func241, Tryz.f241, QF1, Qsb, srt, Vr, QlN, Qjc, Qk6, Qdf, JY]
 try simp only [Qbi, eY]
 all_goals rfl
theorem Qhv (a2 a3 a4) {R1 l R2 a} [H1 : EncL QC R1 l] [H2 : EncR QC R2 a] : LP T (n + 1) 285 4 (frm [(0, .imm 5 R1), (3, .ptr 0 0 0), (6, .i .i64 a2), (7, .b a3), (8, .i .i64 a4)]) [some (Ent.box R2)] =
  (run (XQ l a) (a2, a3, a4)).map (fun (zr : Int × Bool) => (XE.exit 0, frm [(0, .imm 5 (l.map QC)), (3, .ptr 0 0 0), (6, .i .i64 zr.1), (7, .b zr.2)], [some (Ent.box (QC a))])) := by
 rcases H1, H2 with ⟨⟨rfl⟩, ⟨rfl⟩⟩
 rw [QB]
 simp -dsimp only [↓evA, evB, Qm, Tryz.func285, Tryz.f285, QAN, Qpf, TP, TZ, Nat.reduceAdd, Nat.reduceMul, Nat.reduceBEq, Nat.reduceLeDiff, Nat.reduceLT]
 apply Qf6 a2 a3 a4
 intro a2 a3 a4
 simp -dsimp +contextual only [↓evA, eZ, Nat.reduceAdd, Nat.reduceMul, Nat.reduceBEq, Nat.reduceLeDiff, Nat.reduceLT]
 try simp only [XQ, eY]
 try simp only [List.contains_nil, Bool.not_false, Bool.and_true, VG, List.length_append, List.length_cons, List.length_nil, Nat.zero_add, VT, Xj]
 all_goals rfl
theorem QjX {R1 l R2 a} [H1 : EncL QC R1 l] [H2 : EncR QC R2 a] : CP T (n + 4) 285 [.imm 5 R1, .agg R2] = (Qar l a).map fun r => .tup [.own 5 (r.1.map QC), .b r.2] := by
 rcases H1, H2 with ⟨⟨rfl⟩, ⟨rfl⟩⟩
 rw [Qg]
 simp -dsimp +contextual only [↓evA, eZ, Nat.reduceAdd, Nat.reduceMul, Nat.reduceBEq, Nat.reduceLeDiff, Nat.reduceLT, Tryz.func285, Tryz.f285, QAN, Qpf, Qcj, Qhv]
 try simp only [Qar, eY]
 try simp only [List.contains_nil, Bool.not_false, Bool.and_true, VG, List.length_append, List.length_cons, List.length_nil, Nat.zero_add, VT, Xj]
 all_goals first | rfl | (simp +contextual only [evN] <;> rfl)
theorem QgQ (a a2 a4xNo a4xNow a5 a6) {R1 a3 R2 a4xFinds R3 a4xSecrets R4 a4xSlots R5 a4xClaims R6 a4xTrials R7 a4xChain R8 a4xBook} [H1 : EncR QM R1 a3] [H2 : EncL Vk R2 a4xFinds] [H3 : EncL Xg R3 a4xSecrets] [H4 : EncL Vj R4 a4xSlots] [H5 : EncL QC R5 a4xClaims] [H6 : EncL XT R6 a4xTrials] [H7 : EncL VE R7 a4xChain] [H8 : EncL Vw R8 a4xBook] : LP T (n + 1) 242 5 (frm [(1, .i .i64 a), (3, .i .i64 a2), (4, .ptr 0 0 0), (8, .ptr 1 0 0), (10, .ptr 2 0 0), (12, .b a5), (13, .i .i64 a6)]) [some (Ent.box R1), some (Ent.box [.i .i64 0, .nil, .nil, .nil, .nil, .nil, .nil, .nil, .i .i64 0]), some (Ent.box [.i .i64 a4xNo, .sl 3, .sl 4, .sl 5, .sl 6, .sl 7, .sl 8, .sl 9, .i .i64 a4xNow]), some (Ent.lst 8 R2), some (Ent.lst 3 R3), some (Ent.lst 3 R4), some (Ent.lst 5 R5), some (Ent.lst 4 R6), some (Ent.lst 5 R7), some (Ent.lst 4 R8)] =
  (run (Jj a a2 a3 (⟨a4xNo, a4xFinds, a4xSecrets, a4xSlots, a4xClaims, a4xTrials, a4xChain, a4xBook, a4xNow⟩ : House) a5) a6).map (fun (zr : Int) => (XE.exit 0, frm [(1, .i .i64 a), (3, .i .i64 a2), (4, .ptr 0 0 0), (8, .ptr 1 0 0), (10, .ptr 2 0 0), (12, .b a5), (13, .i .i64 zr)], [some (Ent.box (QM a3)), some (Ent.box [.i .i64 0, .nil, .nil, .nil, .nil, .nil, .nil, .nil, .i .i64 0]), some (Ent.box [.i .i64 a4xNo, .sl 3, .sl 4, .sl 5, .sl 6, .sl 7, .sl 8, .sl 9, .i .i64 a4xNow]), some (Ent.lst 8 (a4xFinds.map Vk)), some (Ent.lst 3 (a4xSecrets.map Xg)), some (Ent.lst 3 (a4xSlots.map Vj)), some (Ent.lst 5 (a4xClaims.map QC)), some (Ent.lst 4 (a4xTrials.map XT)), some (Ent.lst 5 (a4xChain.map VE)), some (Ent.lst 4 (a4xBook.map Vw))])) := by
 rcases H1, H2, H3, H4, H5, H6, H7, H8 with ⟨⟨rfl⟩, ⟨rfl⟩, ⟨rfl⟩, ⟨rfl⟩, ⟨rfl⟩, ⟨rfl⟩, ⟨rfl⟩, ⟨rfl⟩⟩
 rw [QB]
 simp -dsimp only [↓evA, evB, Qm, Tryz.func242, Tryz.f242, QAH, Qoy, TP, TZ, Nat.reduceAdd, Nat.reduceMul, Nat.reduceBEq, Nat.reduceLeDiff, Nat.reduceLT]
 apply Qq a6
 intro a6
 simp -dsimp +contextual (maxSteps := 100000000) only [↓evA, eZ, Nat.reduceAdd, Nat.reduceMul, Nat.reduceBEq, Nat.reduceLeDiff, Nat.reduceLT, srt]
 try simp only [Jj, eY]
 try simp only [List.contains_nil, Bool.not_false, Bool.and_true, VG, List.length_append, List.length_cons, List.length_nil, Nat.zero_add, VT, Xj]
 all_goals rfl
theorem Qjk (a2 a3 a4) {R1 a} [H1 : EncR QM R1 a] : CP T (n + 13) 242 [.agg R1, .i .i64 a2, .i .i64 a3, .i .i64 a4] = (ZI a a2 a3 a4).map fun r => .tup [.agg (Jb r.1), .b r.2] := by
 obtain ⟨rfl⟩ := H1
 rw [Qg]
 simp -dsimp +contextual (maxSteps := 100000000) only [↓evA, eZ, Nat.reduceAdd, Nat.reduceMul, Nat.reduceBEq, Nat.reduceLeDiff, Nat.reduceLT, Tryz.func242, Tryz.f242, QAH, Qoy, srt, Vr, QjX, Qcv, JY, QgQ]
 try simp only [ZI, eY]
 try simp only [List.contains_nil, Bool.not_false, Bool.and_true, VG, List.length_append, List.length_cons, List.length_nil, Nat.zero_add, VT, Xj]
 all_goals rfl
theorem QgG (i i2) {R1 l} [H1 : EncL QC R1 l] : LP T (n + 1) 292 2 (frm [(0, .imm 5 R1), (1, .i .i64 i), (5, .i .i64 i2)]) [] =
  J1 (run (Jk l i) i2) (fun (zr : Int) => (XE.ret, frm [(4, .i .i64 zr)], [])) (fun (zr : Unit) => (XE.exit 0, frm [], [])) := by
 obtain ⟨rfl⟩ := H1
 rw [QB]
 simp -dsimp only [↓evA, evB, Qm, Tryz.func292, Tryz.f292, QA1, QoR, TP, TZ, Nat.reduceAdd, Nat.reduceMul, Nat.reduceBEq, Nat.reduceLeDiff, Nat.reduceLT]
 apply Qq i2
 intro i2
 simp -dsimp +contextual only [↓evA, eZ, Nat.reduceAdd, Nat.reduceMul, Nat.reduceBEq, Nat.reduceLeDiff, Nat.reduceLT]
 try simp only [Jk, eY]
 all_goals rfl
theorem Qcm (i) {R1 l} [H1 : EncL QC R1 l] : CP T (n + 2) 292 [.imm 5 R1, .i .i64 i] = (JZ l i).map fun r => .i .i64 r := by
 obtain ⟨rfl⟩ := H1
 rw [Qg]
 simp -dsimp +contextual only [↓evA, eZ, Nat.reduceAdd, Nat.reduceMul, Nat.reduceBEq, Nat.reduceLeDiff, Nat.reduceLT, Tryz.func292, Tryz.f292, QA1, QoR, QgG]
 try simp only [JZ, eY]
 all_goals rfl
theorem Qg4 (c a) {R1 l} [H1 : EncL Xu R1 l] : CP T (n + 5) 338 [.imm 2 R1, .i .i64 c, .i .i64 a] = (ZQ l c a).map fun r => .i .i64 r := by
 obtain ⟨rfl⟩ := H1
 rw [Qg]
 simp -dsimp +contextual only [↓evA, eZ, Nat.reduceAdd, Nat.reduceMul, Nat.reduceBEq, Nat.reduceLeDiff, Nat.reduceLT, Tryz.func338, Tryz.f338, QE4, QsO, QcO, Q8, Qft, Qle]
 try simp only [ZQ, eY]
 all_goals rfl
theorem Qgv {R1 l R2 a} [H1 : EncL Xu R1 l] [H2 : EncR XT R2 a] : CP T (n + 6) 325 [.imm 2 R1, .agg R2] = (Zi l a).map fun r => .i .i64 r := by
 rcases H1, H2 with ⟨⟨rfl⟩, ⟨rfl⟩⟩
 rw [Qg]
 simp -dsimp +contextual only [↓evA, eZ, Nat.reduceAdd, Nat.reduceMul, Nat.reduceBEq, Nat.reduceLeDiff, Nat.reduceLT, Tryz.func325, Tryz.f325, QIC, Qs6, Qb6, Qg4]
 try simp only [Zi, eY]
 all_goals rfl
theorem Qhc (q i) {R1 l} [H1 : EncL Xu R1 l] : LP T (n + 1) 326 2 (frm [(0, .imm 2 R1), (1, .i .i64 q), (5, .i .i64 i)]) [] =
  J1 (run (JQ l q) i) (fun (zr : Int) => (XE.ret, frm [(4, .i .i64 zr)], [])) (fun (zr : Unit) => (XE.exit 0, frm [], [])) := by
 obtain ⟨rfl⟩ := H1
 rw [QB]
 simp -dsimp only [↓evA, evB, Qm, Tryz.func326, Tryz.f326, QAz, QpN, TP, TZ, Nat.reduceAdd, Nat.reduceMul, Nat.reduceBEq, Nat.reduceLeDiff, Nat.reduceLT]
 apply Qq i
 intro i
 simp -dsimp +contextual only [↓evA, eZ, Nat.reduceAdd, Nat.reduceMul, Nat.reduceBEq, Nat.reduceLeDiff, Nat.reduceLT]
 try simp only [JQ, eY]
 all_goals rfl
theorem QjU (q) {R1 l} [H1 : EncL Xu R1 l] : CP T (n + 2) 326 [.imm 2 R1, .i .i64 q] = (Qbh l q).map fun r => .i .i64 r := by
 obtain ⟨rfl⟩ := H1
 rw [Qg]
 simp -dsimp +contextual only [↓evA, eZ, Nat.reduceAdd, Nat.reduceMul, Nat.reduceBEq, Nat.reduceLeDiff, Nat.reduceLT, Tryz.func326, Tryz.f326, QAz, QpN, Qhc]
 try simp only [Qbh, eY]
 all_goals rfl
theorem QiF (a2) {R1 l R2 a} [H1 : EncL Xu R1 l] [H2 : EncR XT R2 a] : CP T (n + 7) 293 [.imm 2 R1, .agg R2, .i .i64 a2] = (Qao l a a2).map fun r => .tup [.agg (XT r.1), .b r.2] := by
 rcases H1, H2 with ⟨⟨rfl⟩, ⟨rfl⟩⟩
 rw [Qg]
 simp -dsimp +contextual only [↓evA, eZ, Nat.reduceAdd, Nat.reduceMul, Nat.reduceBEq, Nat.reduceLeDiff, Nat.reduceLT, Tryz.func293, Tryz.f293, QIZ, Qsh, Qgv, QjU]
 try simp only [Qao, eY]
 all_goals rfl
theorem Qh1 (a2 a3) {R1 a} [H1 : EncR QM R1 a] : CP T (n + 13) 243 [.agg R1, .i .i64 a2, .i .i64 a3] = (Qan a a2 a3).map fun r => .tup [.agg (Jb r.1), .b r.2] := by
 obtain ⟨rfl⟩ := H1
 rw [Qg]
 simp -dsimp +contextual (maxSteps := 100000000) only [↓evA, eZ, Nat.reduceAdd, Nat.reduceMul, Nat.reduceBEq, Nat.reduceLeDiff, Nat.reduceLT, Tryz.func243, Tryz.f243, QEJ, QrV, srt, Vr, Qcm, ZV, Qf3, QiF, Qb6, JY]
 try simp only [Qan, eY]
 all_goals rfl
theorem Qfo (a k i) {R1 l} [H1 : EncL QC R1 l] : LP T (n + 1) 294 3 (frm [(0, .imm 5 R1), (1, .i .i64 a), (5, .i .i64 k), (6, .i .i64 i)]) [] =
  (run (QW l a) (k, i)).map (fun (zr : Int) => (XE.exit 0, frm [(0, .imm 5 (l.map QC)), (5, .i .i64 zr)], [])) := by
 obtain ⟨rfl⟩ := H1
 rw [QB]
 simp -dsimp only [↓evA, evB, Qm, Tryz.func294, Tryz.f294, QAK, Qpk, TP, TZ, Nat.reduceAdd, Nat.reduceMul, Nat.reduceBEq, Nat.reduceLeDiff, Nat.reduceLT]
 apply Vh k i
 intro k i
 simp -dsimp +contextual only [↓evA, eZ, Nat.reduceAdd, Nat.reduceMul, Nat.reduceBEq, Nat.reduceLeDiff, Nat.reduceLT]
 try simp only [QW, eY]
 all_goals rfl
theorem Qdh (a) {R1 l} [H1 : EncL QC R1 l] : CP T (n + 2) 294 [.imm 5 R1, .i .i64 a] = (JT l a).map fun r => .i .i64 r := by
 obtain ⟨rfl⟩ := H1
 rw [Qg]
 simp -dsimp +contextual only [↓evA, eZ, Nat.reduceAdd, Nat.reduceMul, Nat.reduceBEq, Nat.reduceLeDiff, Nat.reduceLT, Tryz.func294, Tryz.f294, QAK, Qpk, Qfo]
 try simp only [JT, eY]
 all_goals rfl
theorem Qh6 (s i) {R1 o} [H1 : EncL Vj R1 o] : LP T (n + 1) 168 6 (frm [(6, .sl 0), (7, .i .i64 s), (8, .i .i64 i)]) [some (Ent.lst 3 R1)] =
  (run (V7 s) (o, i)).map (fun (zr : (List Slot)) => (XE.exit 0, frm [(6, .sl 0)], [some (Ent.lst 3 (zr.map Vj))])) := by
 obtain ⟨rfl⟩ := H1
 rw [QB]
 simp -dsimp only [↓evA, evB, Qm, Tryz.func168, Tryz.f168, QA3, QpB, TP, TZ, Nat.reduceAdd, Nat.reduceMul, Nat.reduceBEq, Nat.reduceLeDiff, Nat.reduceLT]
 apply Vh o i
 intro o i
 simp -dsimp +contextual only [↓evA, eZ, Nat.reduceAdd, Nat.reduceMul, Nat.reduceBEq, Nat.reduceLeDiff, Nat.reduceLT]
 try simp only [V7, eY]
 all_goals rfl
theorem QfO (a) {R1 l} [H1 : EncL Vj R1 l] : CP T (n + 4) 168 [.imm 3 R1, .i .i64 a] = (QaT l a).map fun r => .tup [.own 3 (r.1.map Vj), .b r.2] := by
 obtain ⟨rfl⟩ := H1
 rw [Qg]
 simp -dsimp +contextual only [↓evA, eZ, Nat.reduceAdd, Nat.reduceMul, Nat.reduceBEq, Nat.reduceLeDiff, Nat.reduceLT, Tryz.func168, Tryz.f168, QA3, QpB, Qcv, QcM, Qh6]
 try simp only [QaT, eY]
 all_goals first | rfl | (simp +contextual only [evN] <;> rfl)
theorem Qd5 (a2 a3 w) {R1 a} [H1 : EncR QM R1 a] : CP T (n + 9) 295 [.agg R1, .i .i64 a2, .i .i64 a3, .i .i64 w] = (Zl a a2 a3 w).map fun r => .tup [.agg (Jb r.1), .b r.2] := by
 obtain ⟨rfl⟩ := H1
 rw [Qg]
 simp -dsimp +contextual (maxSteps := 100000000) only [↓evA, eZ, Nat.reduceAdd, Nat.reduceMul, Nat.reduceBEq, Nat.reduceLeDiff, Nat.reduceLT, Tryz.func295, Tryz.f295, QHh, Qsr, Vr, QfO, Qdf]
 try simp only [Zl, eY]
 all_goals rfl
theorem Qj9 (a a2) {R1 l} [H1 : EncL QC R1 l] : CP T (n + 4) 286 [.imm 5 R1, .i .i64 a, .i .i64 a2] = (Qbl l a a2).map fun r => .tup [.own 5 (r.1.map QC), .b r.2] := by
 obtain ⟨rfl⟩ := H1
 rw [Qg]
 simp -dsimp +contextual only [↓evA, eZ, Nat.reduceAdd, Nat.reduceMul, Nat.reduceBEq, Nat.reduceLeDiff, Nat.reduceLT, Tryz.func286, Tryz.f286, QKo, Qs9, Qcm, Qcj]
 try simp only [Qbl, eY]
 all_goals first | rfl | (simp +contextual only [evN] <;> rfl)
theorem Ql7 (d) {R1 a} [H1 : EncR Qdp R1 a] : CP T (n + 3) 297 [.agg R1, .i .i64 d] = (QcH a d).map fun r => .i .i64 r := by
 obtain ⟨rfl⟩ := H1
 rw [Qg]
 simp -dsimp +contextual only [↓evA, eZ, Nat.reduceAdd, Nat.reduceMul, Nat.reduceBEq, Nat.reduceLeDiff, Nat.reduceLT, Tryz.func297, Tryz.f297, QKF, QrT, Qdb, Q8, QlV]
 try simp only [QcH, eY]
 all_goals rfl
theorem Qfe {R1 l R2 a} [H1 : EncL Vw R1 l] [H2 : EncR Vw R2 a] : CP T (n + 4) 169 [.imm 4 R1, .agg R2] = (Zu l a).map fun r => .tup [.own 4 (r.1.map Vw), .b r.2] := by
 rcases H1, H2 with ⟨⟨rfl⟩, ⟨rfl⟩⟩
 rw [Qg]
 simp -dsimp +contextual only [↓evA, eZ, Nat.reduceAdd, Nat.reduceMul, Nat.reduceBEq, Nat.reduceLeDiff, Nat.reduceLT, Tryz.func169, Tryz.f169, QEE, Qtb, Qdy]
 try simp only [Zu, eY]
 try simp only [List.contains_nil, Bool.not_false, Bool.and_true, VG, List.length_append, List.length_cons, List.length_nil, Nat.zero_add, VT, Xj]
 all_goals first | rfl | (simp +contextual only [evN] <;> rfl)
theorem Qg1 (axNo axNow f a2 c) {R1 axFinds R2 axSecrets R3 axSlots R4 axClaims R5 axTrials R6 axChain R7 axBook} [H1 : EncL Vk R1 axFinds] [H2 : EncL Xg R2 axSecrets] [H3 : EncL Vj R3 axSlots] [H4 : EncL QC R4 axClaims] [H5 : EncL XT R5 axTrials] [H6 : EncL VE R6 axChain] [H7 : EncL Vw R7 axBook] : CM T (n + 5) 296 [some (Ent.lst 8 R1), some (Ent.lst 3 R2), some (Ent.lst 3 R3), some (Ent.lst 5 R4), some (Ent.lst 4 R5), some (Ent.lst 5 R6), some (Ent.lst 4 R7)] [.agg [.i .i64 axNo, .sl 0, .sl 1, .sl 2, .sl 3, .sl 4, .sl 5, .sl 6, .i .i64 axNow], .i .i64 f, .i .i64 a2, .i .i64 c] = (Zn (⟨axNo, axFinds, axSecrets, axSlots, axClaims, axTrials, axChain, axBook, axNow⟩ : House) f a2 c).map fun r => .tup [.agg (Jb r.1), .b r.2] := by
 rcases H1, H2, H3, H4, H5, H6, H7 with ⟨⟨rfl⟩, ⟨rfl⟩, ⟨rfl⟩, ⟨rfl⟩, ⟨rfl⟩, ⟨rfl⟩, ⟨rfl⟩⟩
 rw [Qz3]
 simp -dsimp +contextual (maxSteps := 100000000) only [↓evA, eZ, Nat.reduceAdd, Nat.reduceMul, Nat.reduceBEq, Nat.reduceLeDiff, Nat.reduceLT, Tryz.func296, Tryz.f296, QIJ, QrI, Qfe]
 try simp only [Zn, eY]
 all_goals rfl
theorem Qjm (a2) {R1 a} [H1 : EncR QM R1 a] : CP T (n + 13) 244 [.agg R1, .i .i64 a2] = (QaH a a2).map fun r => .tup [.agg (Jb r.1), .b r.2] := by
 obtain ⟨rfl⟩ := H1
 rw [Qg]
 simp -dsimp +contextual (maxSteps := 100000000) only [↓evA, eZ, Nat.reduceAdd, Nat.reduceMul, Nat.reduceBEq, Nat.reduceLeDiff, Nat.reduceLT, Tryz.func244, Tryz.f244, QFa, Qr1, srt, Qdh, JS, ZV, Vr, Qcm, Qd5, Qj9, Ql7, Qg1, JY]
 try simp only [QaH, eY]
 try simp only [List.contains_nil, Bool.not_false, Bool.and_true, VG, List.length_append, List.length_cons, List.length_nil, Nat.zero_add, VT, Xj]
 all_goals rfl
theorem QhC (i k) {R1 l} [H1 : EncL Qbc R1 l] : LP T (n + 1) 327 7 (frm [(0, .imm 3 R1), (3, .i .i64 i), (4, .i .i64 k)]) [] =
  J1 (run (Ju l i) k) (fun (zr : Bool) => (XE.ret, frm [(2, .b zr)], [])) (fun (zr : Unit) => (XE.exit 2, frm [(0, .imm 3 (l.map Qbc)), (3, .i .i64 i)], [])) := by
 obtain ⟨rfl⟩ := H1
 rw [QB]
 simp -dsimp only [↓evA, evB, Qm, Tryz.func327, Tryz.f327, Qvc, QmN, TP, TZ, Nat.reduceAdd, Nat.reduceMul, Nat.reduceBEq, Nat.reduceLeDiff, Nat.reduceLT]
 apply Qq k
 intro k
 simp -dsimp +contextual only [↓evA, eZ, Nat.reduceAdd, Nat.reduceMul, Nat.reduceBEq, Nat.reduceLeDiff, Nat.reduceLT]
 try simp only [Ju, eY]
 all_goals rfl
theorem QhU (i) {R1 l} [H1 : EncL Qbc R1 l] : LP T (n + 2) 327 2 (frm [(0, .imm 3 R1), (3, .i .i64 i)]) [] =
  J1 (run (Jo l) i) (fun (zr : Bool) => (XE.ret, frm [(2, .b zr)], [])) (fun (zr : Unit) => (XE.exit 0, frm [(0, .imm 3 (l.map Qbc))], [])) := by
 obtain ⟨rfl⟩ := H1
 rw [QB]
 simp -dsimp only [↓evA, evB, Qm, Tryz.func327, Tryz.f327, Qvc, QmN, TP, TZ, Nat.reduceAdd, Nat.reduceMul, Nat.reduceBEq, Nat.reduceLeDiff, Nat.reduceLT]
 apply Qq i
 intro i
 simp -dsimp +contextual only [↓evA, eZ, Nat.reduceAdd, Nat.reduceMul, Nat.reduceBEq, Nat.reduceLeDiff, Nat.reduceLT, Q8, QhC]
 try simp only [Jo, eY]
 all_goals rfl
theorem Qlo {R1 l} [H1 : EncL Qbc R1 l] : CP T (n + 3) 327 [.imm 3 R1] = (Qc3 l).map fun r => .b r := by
 obtain ⟨rfl⟩ := H1
 rw [Qg]
 simp -dsimp +contextual only [↓evA, eZ, Nat.reduceAdd, Nat.reduceMul, Nat.reduceBEq, Nat.reduceLeDiff, Nat.reduceLT, Tryz.func327, Tryz.f327, Qvc, QmN, QhU]
 try simp only [Qc3, eY]
 all_goals rfl
theorem QgM (i k) {R1 l R2 o} [H1 : EncL Qbc R1 l] [H2 : EncL Qbc R2 o] : LP T (n + 1) 328 6 (frm [(0, .imm 3 R1), (3, .sl 0), (4, .i .i64 i), (5, .i .i64 k)]) [some (Ent.lst 3 R2)] =
  (run (Jf l o i) k).map (fun (zr : Int) => (XE.exit 2, frm [(0, .imm 3 (l.map Qbc)), (3, .sl 0), (4, .i .i64 i), (5, .i .i64 zr)], [some (Ent.lst 3 (o.map Qbc))])) := by
 rcases H1, H2 with ⟨⟨rfl⟩, ⟨rfl⟩⟩
 rw [QB]
 simp -dsimp only [↓evA, evB, Qm, Tryz.func328, Tryz.f328, Qw5, QmU, TP, TZ, Nat.reduceAdd, Nat.reduceMul, Nat.reduceBEq, Nat.reduceLeDiff, Nat.reduceLT]
 apply Qq k
 intro k
 simp -dsimp +contextual only [↓evA, eZ, Nat.reduceAdd, Nat.reduceMul, Nat.reduceBEq, Nat.reduceLeDiff, Nat.reduceLT]
 try simp only [Jf, eY]
 try simp only [List.contains_nil, Bool.not_false, Bool.and_true, VG, List.length_append, List.length_cons, List.length_nil, Nat.zero_add, VT, Xj]
 all_goals rfl
theorem QgF (i) {R1 l R2 o} [H1 : EncL Qbc R1 l] [H2 : EncL Qbc R2 o] : LP T (n + 2) 328 3 (frm [(0, .imm 3 R1), (3, .sl 0), (4, .i .i64 i)]) [some (Ent.lst 3 R2)] =
  (run (Xq l) (o, i)).map (fun (zr : (List Bid)) => (XE.exit 0, frm [(3, .sl 0)], [some (Ent.lst 3 (zr.map Qbc))])) := by
 rcases H1, H2 with ⟨⟨rfl⟩, ⟨rfl⟩⟩
 rw [QB]
 simp -dsimp only [↓evA, evB, Qm, Tryz.func328, Tryz.f328, Qw5, QmU, TP, TZ, Nat.reduceAdd, Nat.reduceMul, Nat.reduceBEq, Nat.reduceLeDiff, Nat.reduceLT]
 apply Vh o i
 intro o i
 simp -dsimp +contextual only [↓evA, eZ, Nat.reduceAdd, Nat.reduceMul, Nat.reduceBEq, Nat.reduceLeDiff, Nat.reduceLT, QgM]
 try simp only [Xq, eY]
 try simp only [List.contains_nil, Bool.not_false, Bool.and_true, VG, List.length_append, List.length_cons, List.length_nil, Nat.zero_add, VT, Xj]
 all_goals rfl
theorem Qjr {R1 l} [H1 : EncL Qbc R1 l] : CP T (n + 3) 328 [.imm 3 R1] = (QaE l).map fun r => .own 3 (r.map Qbc) := by
 obtain ⟨rfl⟩ := H1
 rw [Qg]
 simp -dsimp +contextual only [↓evA, eZ, Nat.reduceAdd, Nat.reduceMul, Nat.reduceBEq, Nat.reduceLeDiff, Nat.reduceLT, Tryz.func328, Tryz.f328, Qw5, QmU, QgF]
 try simp only [QaE, eY]
 try simp only [List.contains_nil, Bool.not_false, Bool.and_true, VG, List.length_append, List.length_cons, List.length_nil, Nat.zero_add, VT, Xj]
 all_goals first | rfl | (simp +contextual only [evN] <;> rfl)
theorem Ql2 {R1 l} [H1 : EncL Qbc R1 l] : CP T (n + 4) 298 [.imm 3 R1] = (QcD l).map fun r => .tup [.i .i64 r.1, .i .i64 r.2] := by
 obtain ⟨rfl⟩ := H1
 rw [Qg]
 simp -dsimp +contextual only [↓evA, eZ, Nat.reduceAdd, Nat.reduceMul, Nat.reduceBEq, Nat.reduceLeDiff, Nat.reduceLT, Tryz.func298, Tryz.f298, QLu, Qr8, Qlo, Qjr]
 try simp only [QcD, eY]
 all_goals rfl
theorem QjM (k) : CP T (n + 2) 347 [.i .i64 k] = (Qbk k).map fun r => .i .i64 r := by
 rw [Qg]
 simp -dsimp +contextual only [↓evA, eZ, Nat.reduceAdd, Nat.reduceMul, Nat.reduceBEq, Nat.reduceLeDiff, Nat.reduceLT, Tryz.func347, Tryz.f347, QGG, QsY, Q8]
 try simp only [Qbk, eY]
 all_goals rfl
theorem QkE {R1 f} [H1 : EncR Vk R1 f] : CP T (n + 4) 339 [.agg R1] = (QbQ f).map fun r => .i .i64 r := by
 obtain ⟨rfl⟩ := H1
 rw [Qg]
 simp -dsimp +contextual only [↓evA, eZ, Nat.reduceAdd, Nat.reduceMul, Nat.reduceBEq, Nat.reduceLeDiff, Nat.reduceLT, Tryz.func339, Tryz.f339, QEw, Qsc, Qd2, QjM]
 try simp only [QbQ, eY]
 all_goals rfl
theorem Qnd (a) {R1 f} [H1 : EncR Vk R1 f] : CP T (n + 5) 329 [.agg R1, .i .i64 a] = (Zt f a).map fun r => .b r := by
 obtain ⟨rfl⟩ := H1
 rw [Qg]
 simp -dsimp +contextual only [↓evA, eZ, Nat.reduceAdd, Nat.reduceMul, Nat.reduceBEq, Nat.reduceLeDiff, Nat.reduceLT, Tryz.func329, Tryz.f329, QJn, Qse, Qd2, QkE]
 try simp only [Zt, eY]
 all_goals rfl
theorem QiS (a i) {R1 l R2 f} [H1 : EncL QC R1 l] [H2 : EncR Vk R2 f] : LP T (n + 1) 299 4 (frm [(1, .imm 5 R1), (2, .i .i64 a), (3, .ptr 0 0 0), (7, .i .i64 i)]) [some (Ent.box R2)] =
  J1 (run (ZH l a f) i) (fun (zr : Int) => (XE.ret, frm [(6, .i .i64 zr)], [])) (fun (zr : Unit) => (XE.exit 0, frm [(2, .i .i64 a), (3, .ptr 0 0 0)], [some (Ent.box (Vk f))])) := by
 rcases H1, H2 with ⟨⟨rfl⟩, ⟨rfl⟩⟩
 rw [QB]
 simp -dsimp only [↓evA, evB, Qm, Tryz.func299, Tryz.f299, QAU, QpQ, TP, TZ, Nat.reduceAdd, Nat.reduceMul, Nat.reduceBEq, Nat.reduceLeDiff, Nat.reduceLT]
 apply Qq i
 intro i
 simp -dsimp +contextual only [↓evA, eZ, Nat.reduceAdd, Nat.reduceMul, Nat.reduceBEq, Nat.reduceLeDiff, Nat.reduceLT]
 try simp only [ZH, eY]
 all_goals rfl
theorem QgW (a) {R1 f R2 l} [H1 : EncR Vk R1 f] [H2 : EncL QC R2 l] : CP T (n + 6) 299 [.agg R1, .imm 5 R2, .i .i64 a] = (QbJ f l a).map fun r => .i .i64 r := by
 rcases H1, H2 with ⟨⟨rfl⟩, ⟨rfl⟩⟩
 rw [Qg]
 simp -dsimp +contextual only [↓evA, eZ, Nat.reduceAdd, Nat.reduceMul, Nat.reduceBEq, Nat.reduceLeDiff, Nat.reduceLT, Tryz.func299, Tryz.f299, QAU, QpQ, Qdh, Qnd, QiS]
 try simp only [QbJ, eY]
 all_goals rfl
theorem Qfw (c a3 a4) {R1 a R2 a2} [H1 : EncL QU R1 a] [H2 : EncL QU R2 a2] : LP T (n + 2) 330 4 (frm [(0, .i .i64 c), (1, .imm 1 R1), (5, .sl 0), (6, .i .i64 a3), (7, .i .i64 a4)]) [some (Ent.lst 1 R2)] =
  J1 (run (XK c a a2) (a3, a4)) (fun (zr : (List Int)) => (XE.ret, frm [(4, .sl 0)], [some (Ent.lst 1 (zr.map QU))])) (fun (zr : Int) => (XE.exit 0, frm [(0, .i .i64 c), (1, .imm 1 (a.map QU)), (5, .sl 0), (6, .i .i64 zr)], [some (Ent.lst 1 (a2.map QU))])) := by
 rcases H1, H2 with ⟨⟨rfl⟩, ⟨rfl⟩⟩
 rw [QB]
 simp -dsimp only [↓evA, evB, Qm, Tryz.func330, Tryz.f330, QrC, QlA, TP, TZ, Nat.reduceAdd, Nat.reduceMul, Nat.reduceBEq, Nat.reduceLeDiff, Nat.reduceLT]
 apply Vh a3 a4
 intro a3 a4
 simp -dsimp +contextual only [↓evA, eZ, Nat.reduceAdd, Nat.reduceMul, Nat.reduceBEq, Nat.reduceLeDiff, Nat.reduceLT, Q8]
 try simp only [XK, eY]
 all_goals rfl
theorem Qfl (c a3 a4 a5) {R1 a R2 a2} [H1 : EncL QU R1 a] [H2 : EncL QU R2 a2] : LP T (n + 1) 330 13 (frm [(0, .i .i64 c), (1, .imm 1 R1), (5, .sl 0), (6, .i .i64 a3), (8, .i .i64 a4), (9, .i .i64 a5)]) [some (Ent.lst 1 R2)] =
  (run (VV c a a3) (a2, a4, a5)).map (fun (zr : (List Int) × Int) => (XE.exit 2, frm [(5, .sl 0), (8, .i .i64 zr.2)], [some (Ent.lst 1 (zr.1.map QU))])) := by
 rcases H1, H2 with ⟨⟨rfl⟩, ⟨rfl⟩⟩
 rw [QB]
 simp -dsimp only [↓evA, evB, Qm, Tryz.func330, Tryz.f330, QrC, QlA, TP, TZ, Nat.reduceAdd, Nat.reduceMul, Nat.reduceBEq, Nat.reduceLeDiff, Nat.reduceLT]
 apply Qf6 a2 a4 a5
 intro a2 a4 a5
 simp -dsimp +contextual only [↓evA, eZ, Nat.reduceAdd, Nat.reduceMul, Nat.reduceBEq, Nat.reduceLeDiff, Nat.reduceLT]
 try simp only [VV, eY]
 all_goals rfl
theorem Qfk (a2 a3) {R1 a} [H1 : EncL QU R1 a] : LP T (n + 1) 330 18 (frm [(5, .sl 0), (8, .i .i64 a2), (10, .i .i64 a3)]) [some (Ent.lst 1 R1)] =
  (run (Xw a2) (a, a3)).map (fun (zr : (List Int)) => (XE.exit 4, frm [(5, .sl 0)], [some (Ent.lst 1 (zr.map QU))])) := by
 obtain ⟨rfl⟩ := H1
 rw [QB]
 simp -dsimp only [↓evA, evB, Qm, Tryz.func330, Tryz.f330, QrC, QlA, TP, TZ, Nat.reduceAdd, Nat.reduceMul, Nat.reduceBEq, Nat.reduceLeDiff, Nat.reduceLT]
 apply Vh a a3
 intro a a3
 simp -dsimp +contextual only [↓evA, eZ, Nat.reduceAdd, Nat.reduceMul, Nat.reduceBEq, Nat.reduceLeDiff, Nat.reduceLT]
 try simp only [Xw, eY]
 all_goals rfl
theorem Qir (c) {R1 a} [H1 : EncL QU R1 a] : CP T (n + 3) 330 [.i .i64 c, .imm 1 R1] = (Qae c a).map fun r => .own 1 (r.map QU) := by
 obtain ⟨rfl⟩ := H1
 rw [Qg]
 simp -dsimp +contextual only [↓evA, eZ, Nat.reduceAdd, Nat.reduceMul, Nat.reduceBEq, Nat.reduceLeDiff, Nat.reduceLT, Tryz.func330, Tryz.f330, QrC, QlA, Q8, Qfw, Qfl, Qfk]
 try simp only [Qae, eY]
 all_goals first | rfl | (simp +contextual only [evN] <;> rfl)
theorem QkW (p f) : CP T (n + 4) 300 [.i .i64 p, .i .i64 f] = (Qb7 p f).map fun r => .own 2 (r.map Qjf) := by
 rw [Qg]
 simp -dsimp +contextual only [↓evA, eZ, Nat.reduceAdd, Nat.reduceMul, Nat.reduceBEq, Nat.reduceLeDiff, Nat.reduceLT, Tryz.func300, Tryz.f300, QE6, QrW, Q8, Qir]
 try simp only [Qb7, eY]
 all_goals first | rfl | (simp +contextual only [evN] <;> rfl)
theorem QjT (a2) {R1 a R2 a3} [H1 : EncR QM R1 a] [H2 : EncL Qbc R2 a3] : CP T (n + 13) 245 [.agg R1, .i .i64 a2, .imm 3 R2] = (Qbo a a2 a3).map fun r => .tup [.agg (Jb r.1), .b r.2] := by
 rcases H1, H2 with ⟨⟨rfl⟩, ⟨rfl⟩⟩
 rw [Qg]
 simp -dsimp +contextual (maxSteps := 100000000) only [↓evA, eZ, Nat.reduceAdd, Nat.reduceMul, Nat.reduceBEq, Nat.reduceLeDiff, Nat.reduceLT, Tryz.func245, Tryz.f245, QGB, QrO, srt, JS, Ql2, ZV, QgW, Vr, Qd5, Qg1, QkW, JY]
 try simp only [Qbo, eY]
 try simp only [List.contains_nil, Bool.not_false, Bool.and_true, VG, List.length_append, List.length_cons, List.length_nil, Nat.zero_add, VT, Xj]
 all_goals rfl
theorem QiU (a2) {R1 a} [H1 : EncR QM R1 a] : CP T (n + 13) 246 [.agg R1, .i .i64 a2] = (QaI a a2).map fun r => .tup [.agg (Jb r.1), .b r.2] := by
 obtain ⟨rfl⟩ := H1
 rw [Qg]
 simp -dsimp +contextual (maxSteps := 100000000) only [↓evA, eZ, Nat.reduceAdd, Nat.reduceMul, Nat.reduceBEq, Nat.reduceLeDiff, Nat.reduceLT, Tryz.func246, Tryz.f246, QHl, QrP, srt, JS, ZV, Vr, QgW, Qd5, JY]
 try simp only [QaI, eY]
 try simp only [List.contains_nil, Bool.not_false, Bool.and_true, VG, List.length_append, List.length_cons, List.length_nil, Nat.zero_add, VT, Xj]
 all_goals rfl
theorem QjW (a2) {R1 a} [H1 : EncR QM R1 a] : CP T (n + 13) 247 [.agg R1, .i .i64 a2] = (Qbf a a2).map fun r => .tup [.agg (Jb r.1), .b r.2] := by
 obtain ⟨rfl⟩ := H1
 rw [Qg]
 simp -dsimp +contextual (maxSteps := 100000000) only [↓evA, eZ, Nat.reduceAdd, Nat.reduceMul, Nat.reduceBEq, Nat.reduceLeDiff, Nat.reduceLT, Tryz.func247, Tryz.f247, QFU, QrR, srt, Vr, Q8, JY]
 try simp only [Qbf, eY]
 all_goals rfl
theorem Qix {R1 a R2 a2} [H1 : EncR QM R1 a] [H2 : EncR Qhd R2 a2] : CP T (n + 14) 170 [.agg R1, .agg R2] = (Qaf a a2).map fun r => .tup [.agg (Jb r.1), .b r.2] := by
 rcases H1, H2 with ⟨⟨rfl⟩, ⟨rfl⟩⟩
 rw [Qg]
 simp -dsimp +contextual (maxSteps := 100000000) only [↓evA, eZ, Nat.reduceAdd, Nat.reduceMul, Nat.reduceBEq, Nat.reduceLeDiff, Nat.reduceLT, Tryz.func170, Tryz.f170, QET, QsZ, Qj6, Qjk, Qh1, Qjm, QjT, QiU, QjW, Vr]
 try simp only [Qaf, eY]
 all_goals rfl
theorem QgL (oxNo oxNow i) {R1 l R2 oxFinds R3 oxSecrets R4 oxSlots R5 oxClaims R6 oxTrials R7 oxChain R8 oxBook} [H1 : EncL Qhd R1 l] [H2 : EncL Vk R2 oxFinds] [H3 : EncL Xg R3 oxSecrets] [H4 : EncL Vj R4 oxSlots] [H5 : EncL QC R5 oxClaims] [H6 : EncL XT R6 oxTrials] [H7 : EncL VE R7 oxChain] [H8 : EncL Vw R8 oxBook] : LP T (n + 15) 101 3 (frm [(1, .imm 14 R1), (4, .ptr 0 0 0), (5, .ptr 1 0 0), (6, .i .i64 i)]) [some (Ent.box [.i .i64 0, .nil, .nil, .nil, .nil, .nil, .nil, .nil, .i .i64 0]), some (Ent.box [.i .i64 oxNo, .sl 2, .sl 3, .sl 4, .sl 5, .sl 6, .sl 7, .sl 8, .i .i64 oxNow]), some (Ent.lst 8 R2), some (Ent.lst 3 R3), some (Ent.lst 3 R4), some (Ent.lst 5 R5), some (Ent.lst 4 R6), some (Ent.lst 5 R7), some (Ent.lst 4 R8)] =
  (run (VY l) ((⟨oxNo, oxFinds, oxSecrets, oxSlots, oxClaims, oxTrials, oxChain, oxBook, oxNow⟩ : House), i)).map (fun (zr : House) => (XE.exit 0, frm [(4, .ptr 0 0 0), (5, .ptr 1 0 0)], [some (Ent.box [.i .i64 0, .nil, .nil, .nil, .nil, .nil, .nil, .nil, .i .i64 0]), some (Ent.box [.i .i64 zr.No, .sl 2, .sl 3, .sl 4, .sl 5, .sl 6, .sl 7, .sl 8, .i .i64 zr.Now]), some (Ent.lst 8 (zr.Finds.map Vk)), some (Ent.lst 3 (zr.Secrets.map Xg)), some (Ent.lst 3 (zr.Slots.map Vj)), some (Ent.lst 5 (zr.Claims.map QC)), some (Ent.lst 4 (zr.Trials.map XT)), some (Ent.lst 5 (zr.Chain.map VE)), some (Ent.lst 4 (zr.Book.map Vw))])) := by
 rcases H1, H2, H3, H4, H5, H6, H7, H8 with ⟨⟨rfl⟩, ⟨rfl⟩, ⟨rfl⟩, ⟨rfl⟩, ⟨rfl⟩, ⟨rfl⟩, ⟨rfl⟩, ⟨rfl⟩⟩
 rw [QB]
 simp -dsimp only [↓evA, evB, Qm, Tryz.func101, Tryz.f101, QAs, Qpl, TP, TZ, Nat.reduceAdd, Nat.reduceMul, Nat.reduceBEq, Nat.reduceLeDiff, Nat.reduceLT]
 refine run_map (fun (zs : House × Int) => (frm [(1, .imm 14 (l.map Qhd)), (4, .ptr 0 0 0), (5, .ptr 1 0 0), (6, .i .i64 zs.2)], [some (Ent.box [.i .i64 0, .nil, .nil, .nil, .nil, .nil, .nil, .nil, .i .i64 0]), some (Ent.box [.i .i64 zs.1.No, .sl 2, .sl 3, .sl 4, .sl 5, .sl 6, .sl 7, .sl 8, .i .i64 zs.1.Now]), some (Ent.lst 8 (zs.1.Finds.map Vk)), some (Ent.lst 3 (zs.1.Secrets.map Xg)), some (Ent.lst 3 (zs.1.Slots.map Vj)), some (Ent.lst 5 (zs.1.Claims.map QC)), some (Ent.lst 4 (zs.1.Trials.map XT)), some (Ent.lst 5 (zs.1.Chain.map VE)), some (Ent.lst 4 (zs.1.Book.map Vw))])) _ ?_ ((⟨oxNo, oxFinds, oxSecrets, oxSlots, oxClaims, oxTrials, oxChain, oxBook, oxNow⟩ : House), i)
 rintro ⟨o, i⟩
 simp -dsimp +contextual (maxSteps := 100000000) only [↓evA, eZ, Nat.reduceAdd, Nat.reduceMul, Nat.reduceBEq, Nat.reduceLeDiff, Nat.reduceLT, Qix]
 try simp only [VY, eY]
 all_goals rfl
theorem Qju {R1 a R2 l} [H1 : EncR QM R1 a] [H2 : EncL Qhd R2 l] : CP T (n + 16) 101 [.agg R1, .imm 14 R2] = (QaK a l).map fun r => .agg (Jb r) := by
 rcases H1, H2 with ⟨⟨rfl⟩, ⟨rfl⟩⟩
 rw [Qg]
 simp -dsimp +contextual (maxSteps := 100000000) only [↓evA, eZ, Nat.reduceAdd, Nat.reduceMul, Nat.reduceBEq, Nat.reduceLeDiff, Nat.reduceLT, Tryz.func101, Tryz.f101, QAs, Qpl, Vr, QgL]
 try simp only [QaK, eY]
 all_goals rfl
theorem QlC {R1 c} [H1 : EncR VP R1 c] : CA T (n + 17) 99 [some (Ent.box R1)] [.ptr 0 0 0] = (Qcd c).map fun r => (.agg [.i .i64 r.2.No, .sl 1, .sl 2, .sl 3, .sl 4, .sl 5, .sl 6, .sl 7, .i .i64 r.2.Now], [some (Ent.box (VP r.1)), some (Ent.lst 8 (r.2.Finds.map Vk)), some (Ent.lst 3 (r.2.Secrets.map Xg)), some (Ent.lst 3 (r.2.Slots.map Vj)), some (Ent.lst 5 (r.2.Claims.map QC)), some (Ent.lst 4 (r.2.Trials.map XT)), some (Ent.lst 5 (r.2.Chain.map VE)), some (Ent.lst 4 (r.2.Book.map Vw))]) := by
 obtain ⟨rfl⟩ := H1
 rw [Qer]
 simp -dsimp +contextual (maxSteps := 100000000) only [↓evA, eZ, Nat.reduceAdd, Nat.reduceMul, Nat.reduceBEq, Nat.reduceLeDiff, Nat.reduceLT, Tryz.func99, Tryz.f99, QPK, QyN, srt, QjP, Qlh, Qju, VH, Qdf, QfO, Qfe]
 try simp only [Qcd, eY]
 all_goals rfl
theorem QeJ {R1 c} [H1 : EncL QcC R1 c] : CP T (n + 18) 58 [.imm 1 R1] = (X7 c).map fun r => .agg (Jb r) := by
 obtain ⟨rfl⟩ := H1
 rw [Qg]
 simp -dsimp +contextual only [↓evA, eZ, Nat.reduceAdd, Nat.reduceMul, Nat.reduceBEq, Nat.reduceLeDiff, Nat.reduceLT, Tryz.func58, Tryz.f58, QN8, Qzt, srt, Qm8, QlC]
 try simp only [X7, eY]
 all_goals rfl
theorem Qhw {R1 c} [H1 : EncL QcC R1 c] : CP T (n + 19) 9 [.imm 1 R1] = (ZF c).map fun r => .agg (Jb r) := by
 obtain ⟨rfl⟩ := H1
 rw [Qg]
 simp -dsimp +contextual only [↓evA, eZ, Nat.reduceAdd, Nat.reduceMul, Nat.reduceBEq, Nat.reduceLeDiff, Nat.reduceLT, Tryz.func9, Tryz.f9, Aa9, An9, QeJ]
 try simp only [ZF, eY]
 all_goals rfl
theorem VJ (a l a2) : CP T (n + 1) 59 [.i .i64 a, .i .i64 l, .i .i64 a2] = (Qb a l a2).map fun r => .b r := by
 rw [Qg]
 simp -dsimp +contextual only [↓evA, eZ, Nat.reduceAdd, Nat.reduceMul, Nat.reduceBEq, Nat.reduceLeDiff, Nat.reduceLT, Tryz.func59, Tryz.f59, QPy, Qxu]
 try simp only [Qb, eY]
 all_goals rfl
theorem QlK {R1 a} [H1 : EncR Qdp R1 a] : CP T (n + 2) 165 [.agg R1] = (Zf a).map fun r => .b r := by
 obtain ⟨rfl⟩ := H1
 rw [Qg]
 simp -dsimp +contextual only [↓evA, eZ, Nat.reduceAdd, Nat.reduceMul, Nat.reduceBEq, Nat.reduceLeDiff, Nat.reduceLT, Tryz.func165, Tryz.f165, QEu, Qsd, VJ]
 try simp only [Zf, eY]
 all_goals rfl
theorem Qd0 {R1 f} [H1 : EncR Vk R1 f] : CP T (n + 3) 95 [.agg R1] = (Zh f).map fun r => .b r := by
 obtain ⟨rfl⟩ := H1
 rw [Qg]
 simp -dsimp +contextual only [↓evA, eZ, Nat.reduceAdd, Nat.reduceMul, Nat.reduceBEq, Nat.reduceLeDiff, Nat.reduceLT, Tryz.func95, Tryz.f95, QOG, QzQ, QlK, VJ]
 try simp only [Zh, eY]
 all_goals rfl
theorem Qg5 (a2 a3) {R1 l R2 a} [H1 : EncL Vk R1 l] [H2 : EncL Vk R2 a] : LP T (n + 4) 31 4 (frm [(0, .imm 8 R1), (8, .imm 8 R2), (9, .i .i64 a2), (10, .i .i64 a3)]) [] =
  J1 (run (JU l a a2) a3) (fun (zr : Bool) => (XE.ret, frm [(2, .b zr)], [])) (fun (zr : Unit) => (XE.exit 0, frm [], [])) := by
 rcases H1, H2 with ⟨⟨rfl⟩, ⟨rfl⟩⟩
 rw [QB]
 simp -dsimp only [↓evA, evB, Qm, Tryz.func31, Tryz.f31, QF3, QwJ, TP, TZ, Nat.reduceAdd, Nat.reduceMul, Nat.reduceBEq, Nat.reduceLeDiff, Nat.reduceLT]
 apply Qq a3
 intro a3
 simp -dsimp +contextual only [↓evA, eZ, Nat.reduceAdd, Nat.reduceMul, Nat.reduceBEq, Nat.reduceLeDiff, Nat.reduceLT, Qd0]
 try simp only [JU, eY]
 all_goals rfl
theorem Qj1 {R1 l} [H1 : EncL Vk R1 l] : CP T (n + 5) 31 [.imm 8 R1] = (Zr l).map fun r => .b r := by
 obtain ⟨rfl⟩ := H1
 rw [Qg]
 simp -dsimp +contextual only [↓evA, eZ, Nat.reduceAdd, Nat.reduceMul, Nat.reduceBEq, Nat.reduceLeDiff, Nat.reduceLT, Tryz.func31, Tryz.f31, QF3, QwJ, Qg5]
 try simp only [Zr, eY]
 all_goals rfl
theorem Qhp (a2 a3) {R1 l R2 a} [H1 : EncL Xu R1 l] [H2 : EncL Xu R2 a] : LP T (n + 2) 135 4 (frm [(0, .imm 2 R1), (8, .imm 2 R2), (9, .i .i64 a2), (10, .i .i64 a3)]) [] =
  J1 (run (JM l a a2) a3) (fun (zr : Bool) => (XE.ret, frm [(2, .b zr)], [])) (fun (zr : Unit) => (XE.exit 0, frm [], [])) := by
 rcases H1, H2 with ⟨⟨rfl⟩, ⟨rfl⟩⟩
 rw [QB]
 simp -dsimp only [↓evA, evB, Qm, Tryz.func135, Tryz.f135, QAo, Qo5, TP, TZ, Nat.reduceAdd, Nat.reduceMul, Nat.reduceBEq, Nat.reduceLeDiff, Nat.reduceLT]
 apply Qq a3
 intro a3
 simp -dsimp +contextual only [↓evA, eZ, Nat.reduceAdd, Nat.reduceMul, Nat.reduceBEq, Nat.reduceLeDiff, Nat.reduceLT, VJ]
 try simp only [JM, eY]
 all_goals rfl
theorem Qfa {R1 l} [H1 : EncL Xu R1 l] : CP T (n + 3) 135 [.imm 2 R1] = (Zq l).map fun r => .b r := by
 obtain ⟨rfl⟩ := H1
 rw [Qg]
 simp -dsimp +contextual only [↓evA, eZ, Nat.reduceAdd, Nat.reduceMul, Nat.reduceBEq, Nat.reduceLeDiff, Nat.reduceLT, Tryz.func135, Tryz.f135, QAo, Qo5, Qhp]
 try simp only [Zq, eY]
 all_goals rfl
theorem QfH (a2 a3) {R1 l R2 a} [H1 : EncL VF R1 l] [H2 : EncL VF R2 a] : LP T (n + 4) 60 4 (frm [(0, .imm 3 R1), (8, .imm 3 R2), (9, .i .i64 a2), (10, .i .i64 a3)]) [] =
  J1 (run (XL l a a2) a3) (fun (zr : Bool) => (XE.ret, frm [(2, .b zr)], [])) (fun (zr : Unit) => (XE.exit 0, frm [], [])) := by
 rcases H1, H2 with ⟨⟨rfl⟩, ⟨rfl⟩⟩
 rw [QB]
 simp -dsimp only [↓evA, evB, Qm, Tryz.func60, Tryz.f60, QJS, Qxk, TP, TZ, Nat.reduceAdd, Nat.reduceMul, Nat.reduceBEq, Nat.reduceLeDiff, Nat.reduceLT]
 apply Qq a3
 intro a3
 simp -dsimp +contextual only [↓evA, eZ, Nat.reduceAdd, Nat.reduceMul, Nat.reduceBEq, Nat.reduceLeDiff, Nat.reduceLT, VJ, Qfa]
 try simp only [XL, eY]
 all_goals rfl
end Go.Proofs.YtkbilciipmijjaaGreat
