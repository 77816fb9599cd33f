import Derived.Test.YtponohekgnklkaaGreatEq4
namespace Go.Proofs.YtponohekgnklkaaGreat
open Go Go.Proofs Go.Proofs.YtponohekgnklkaaGreat.Am
set_option maxHeartbeats 4000000
set_option linter.unusedVariables false
set_option linter.unusedSimpArgs false
set_option linter.defProp false
set_option maxRecDepth 100000
variable (n : Nat)
theorem QhF (i i2) {R1 l} [H1 : EncL Qj R1 l] : LP T (n + 1) 133 2 (frm [(0, .imm 5 R1), (1, .i .i64 i), (5, .i .i64 i2)]) [] =
  Jd (run (JC l i) i2) (fun (zr : Int) => (XE.ret, frm [(4, .i .i64 zr)], [])) (fun (zr : Unit) => (XE.exit 0, frm [], [])) := by
 obtain ⟨rfl⟩ := H1
 rw [Qy]
 simp -dsimp only [↓evA, evB, Qo, Tryz.func133, Tryz.f133, QDU, Qrk, TP, TZ, Nat.reduceAdd, Nat.reduceMul, Nat.reduceBEq, Nat.reduceLeDiff, Nat.reduceLT]
 apply Qs i2
 intro i2
 simp -dsimp +contextual only [↓evA, eZ, Nat.reduceAdd, Nat.reduceMul, Nat.reduceBEq, Nat.reduceLeDiff, Nat.reduceLT]
 try simp only [JC, eY]
 all_goals rfl
theorem Qb6 (i) {R1 l} [H1 : EncL Qj R1 l] : CP T (n + 2) 133 [.imm 5 R1, .i .i64 i] = (Jl l i).map fun r => .i .i64 r := by
 obtain ⟨rfl⟩ := H1
 rw [Qf]
 simp -dsimp +contextual only [↓evA, eZ, Nat.reduceAdd, Nat.reduceMul, Nat.reduceBEq, Nat.reduceLeDiff, Nat.reduceLT, Tryz.func133, Tryz.f133, QDU, Qrk, QhF]
 try simp only [Jl, eY]
 all_goals rfl
theorem QjG (s i) {R1 o} [H1 : EncL QX R1 o] : LP T (n + 1) 183 6 (frm [(6, .sl 0), (7, .i .i64 s), (8, .i .i64 i)]) [some (Ent.lst 3 R1)] =
  (run (Xs s) (o, i)).map (fun (zr : (List Slot)) => (XE.exit 0, frm [(6, .sl 0)], [some (Ent.lst 3 (zr.map QX))])) := by
 obtain ⟨rfl⟩ := H1
 rw [Qy]
 simp -dsimp only [↓evA, evB, Qo, Tryz.func183, Tryz.f183, QEb, Qqn, TP, TZ, Nat.reduceAdd, Nat.reduceMul, Nat.reduceBEq, Nat.reduceLeDiff, Nat.reduceLT]
 apply VS o i
 intro o i
 simp -dsimp +contextual only [↓evA, eZ, Nat.reduceAdd, Nat.reduceMul, Nat.reduceBEq, Nat.reduceLeDiff, Nat.reduceLT]
 try simp only [Xs, eY]
 all_goals rfl
theorem Qmz (a) {R1 l} [H1 : EncL QX R1 l] : CP T (n + 4) 183 [.imm 3 R1, .i .i64 a] = (Qb2 l a).map fun r => .tup [.own 3 (r.1.map QX), .b r.2] := by
 obtain ⟨rfl⟩ := H1
 rw [Qf]
 simp -dsimp +contextual only [↓evA, eZ, Nat.reduceAdd, Nat.reduceMul, Nat.reduceBEq, Nat.reduceLeDiff, Nat.reduceLT, Tryz.func183, Tryz.f183, QEb, Qqn, Qdx, QdW, QjG]
 try simp only [Qb2, eY]
 all_goals first | rfl | (simp +contextual only [evN] <;> rfl)
theorem QnP (a2 a3 w) {R1 a} [H1 : EncR QV R1 a] : CP T (n + 9) 134 [.agg R1, .i .i64 a2, .i .i64 a3, .i .i64 w] = (ZX a a2 a3 w).map fun r => .tup [.agg (VU r.1), .b r.2] := by
 obtain ⟨rfl⟩ := H1
 rw [Qf]
 simp -dsimp +contextual (maxSteps := 100000000) only [↓evA, eZ, Nat.reduceAdd, Nat.reduceMul, Nat.reduceBEq, Nat.reduceLeDiff, Nat.reduceLT, Tryz.func134, Tryz.f134, QIF, Quj, Jo, Qmz, Qgu]
 try simp only [ZX, eY]
 all_goals rfl
theorem Qlq (a a2) {R1 l} [H1 : EncL Qj R1 l] : CP T (n + 4) 135 [.imm 5 R1, .i .i64 a, .i .i64 a2] = (Qcl l a a2).map fun r => .tup [.own 5 (r.1.map Qj), .b r.2] := by
 obtain ⟨rfl⟩ := H1
 rw [Qf]
 simp -dsimp +contextual only [↓evA, eZ, Nat.reduceAdd, Nat.reduceMul, Nat.reduceBEq, Nat.reduceLeDiff, Nat.reduceLT, Tryz.func135, Tryz.f135, QOw, Qur, Qb6, Qdu]
 try simp only [Qcl, eY]
 all_goals first | rfl | (simp +contextual only [evN] <;> rfl)
theorem QnI (d) {R1 a} [H1 : EncR Qbm R1 a] : CP T (n + 3) 137 [.agg R1, .i .i64 d] = (QdO a d).map fun r => .i .i64 r := by
 obtain ⟨rfl⟩ := H1
 rw [Qf]
 simp -dsimp +contextual only [↓evA, eZ, Nat.reduceAdd, Nat.reduceMul, Nat.reduceBEq, Nat.reduceLeDiff, Nat.reduceLT, Tryz.func137, Tryz.f137, QIY, Qu5, Qem, Xe, QiG]
 try simp only [QdO, eY]
 all_goals rfl
theorem Qlu {R1 l R2 a} [H1 : EncL Vk R1 l] [H2 : EncR Vk R2 a] : CP T (n + 4) 184 [.imm 4 R1, .agg R2] = (Qbi l a).map fun r => .tup [.own 4 (r.1.map Vk), .b r.2] := by
 rcases H1, H2 with ⟨⟨rfl⟩, ⟨rfl⟩⟩
 rw [Qf]
 simp -dsimp +contextual only [↓evA, eZ, Nat.reduceAdd, Nat.reduceMul, Nat.reduceBEq, Nat.reduceLeDiff, Nat.reduceLT, Tryz.func184, Tryz.f184, QPQ, Qtq, QeN]
 try simp only [Qbi, eY]
 try simp only [List.contains_nil, Bool.not_false, Bool.and_true, VK, List.length_append, List.length_cons, List.length_nil, Nat.zero_add, VL, V0]
 all_goals first | rfl | (simp +contextual only [evN] <;> rfl)
theorem Qn1 (axNo axNow f a2 c) {R1 axFinds R2 axSecrets R3 axSlots R4 axClaims R5 axTrials R6 axChain R7 axBook} [H1 : EncL QE R1 axFinds] [H2 : EncL QB R2 axSecrets] [H3 : EncL QX R3 axSlots] [H4 : EncL Qj R4 axClaims] [H5 : EncL QS R5 axTrials] [H6 : EncL Vv R6 axChain] [H7 : EncL Vk R7 axBook] : CM T (n + 5) 136 [some (Ent.lst 8 R1), some (Ent.lst 3 R2), some (Ent.lst 3 R3), some (Ent.lst 5 R4), some (Ent.lst 4 R5), some (Ent.lst 5 R6), some (Ent.lst 4 R7)] [.agg [.i .i64 axNo, .sl 0, .sl 1, .sl 2, .sl 3, .sl 4, .sl 5, .sl 6, .i .i64 axNow], .i .i64 f, .i .i64 a2, .i .i64 c] = (ZW (⟨axNo, axFinds, axSecrets, axSlots, axClaims, axTrials, axChain, axBook, axNow⟩ : House) f a2 c).map fun r => .tup [.agg (VU r.1), .b r.2] := by
 rcases H1, H2, H3, H4, H5, H6, H7 with ⟨⟨rfl⟩, ⟨rfl⟩, ⟨rfl⟩, ⟨rfl⟩, ⟨rfl⟩, ⟨rfl⟩, ⟨rfl⟩⟩
 rw [Qoi]
 simp -dsimp +contextual (maxSteps := 100000000) only [↓evA, eZ, Nat.reduceAdd, Nat.reduceMul, Nat.reduceBEq, Nat.reduceLeDiff, Nat.reduceLT, Tryz.func136, Tryz.f136, QH3, QtM, Qlu]
 try simp only [ZW, eY]
 all_goals rfl
theorem Qkb (a2) {R1 a} [H1 : EncR QV R1 a] : CP T (n + 13) 85 [.agg R1, .i .i64 a2] = (XW a a2).map fun r => .tup [.agg (VU r.1), .b r.2] := by
 obtain ⟨rfl⟩ := H1
 rw [Qf]
 simp -dsimp +contextual (maxSteps := 100000000) only [↓evA, eZ, Nat.reduceAdd, Nat.reduceMul, Nat.reduceBEq, Nat.reduceLeDiff, Nat.reduceLT, Tryz.func85, Tryz.f85, QS0, QAn, srt, Qie, Qcb, Qdg, Jo, Qb6, QnP, Qlq, QnI, Qn1, QbI]
 try simp only [XW, eY]
 try simp only [List.contains_nil, Bool.not_false, Bool.and_true, VK, List.length_append, List.length_cons, List.length_nil, Nat.zero_add, VL, V0]
 all_goals rfl
theorem QiU (c i) {R1 a R2 a2} [H1 : EncR QV R1 a] [H2 : EncR QS R2 a2] : LP T (n + 1) 138 2 (frm [(1, .i .i64 c), (2, .ptr 0 0 0), (4, .ptr 1 0 0), (6, .i .i64 i)]) [some (Ent.box R1), some (Ent.box R2)] =
  Jd (run (ZH c a a2) i) (fun (zr : Trial × Bool) => (XE.ret, frm [(4, .ptr 0 0 0), (5, .b zr.2)], [some (Ent.box (QS zr.1))])) (fun (zr : Unit) => (XE.exit 0, frm [(4, .ptr 0 0 0)], [some (Ent.box (QS a2))])) := by
 rcases H1, H2 with ⟨⟨rfl⟩, ⟨rfl⟩⟩
 rw [Qy]
 simp -dsimp only [↓evA, evB, Qo, Tryz.func138, Tryz.f138, QDx, Qru, TP, TZ, Nat.reduceAdd, Nat.reduceMul, Nat.reduceBEq, Nat.reduceLeDiff, Nat.reduceLT]
 apply Qs i
 intro i
 simp -dsimp +contextual (maxSteps := 100000000) only [↓evA, eZ, Nat.reduceAdd, Nat.reduceMul, Nat.reduceBEq, Nat.reduceLeDiff, Nat.reduceLT]
 try simp only [ZH, eY]
 all_goals rfl
theorem Qma (c) {R1 a} [H1 : EncR QV R1 a] : CP T (n + 2) 138 [.agg R1, .i .i64 c] = (Qdi a c).map fun r => .tup [.agg (QS r.1), .b r.2] := by
 obtain ⟨rfl⟩ := H1
 rw [Qf]
 simp -dsimp +contextual (maxSteps := 100000000) only [↓evA, eZ, Nat.reduceAdd, Nat.reduceMul, Nat.reduceBEq, Nat.reduceLeDiff, Nat.reduceLT, Tryz.func138, Tryz.f138, QDx, Qru, QiU]
 try simp only [Qdi, eY]
 all_goals rfl
theorem Qh3 (c a) {R1 l} [H1 : EncL Vp R1 l] : CP T (n + 5) 187 [.imm 2 R1, .i .i64 c, .i .i64 a] = (Qaw l c a).map fun r => .i .i64 r := by
 obtain ⟨rfl⟩ := H1
 rw [Qf]
 simp -dsimp +contextual only [↓evA, eZ, Nat.reduceAdd, Nat.reduceMul, Nat.reduceBEq, Nat.reduceLeDiff, Nat.reduceLT, Tryz.func187, Tryz.f187, QOR, QuS, QcA, Xe, Qgr, QmE]
 try simp only [Qaw, eY]
 all_goals rfl
theorem Qd0 {R1 l R2 a} [H1 : EncL Vp R1 l] [H2 : EncR QS R2 a] : CP T (n + 6) 141 [.imm 2 R1, .agg R2] = (JB l a).map fun r => .i .i64 r := by
 rcases H1, H2 with ⟨⟨rfl⟩, ⟨rfl⟩⟩
 rw [Qf]
 simp -dsimp +contextual only [↓evA, eZ, Nat.reduceAdd, Nat.reduceMul, Nat.reduceBEq, Nat.reduceLeDiff, Nat.reduceLT, Tryz.func141, Tryz.f141, QOr, QtP, Qdc, Qh3]
 try simp only [JB, eY]
 all_goals rfl
theorem QiC (q i) {R1 l} [H1 : EncL Vp R1 l] : LP T (n + 1) 140 2 (frm [(0, .imm 2 R1), (1, .i .i64 q), (5, .i .i64 i)]) [] =
  Jd (run (Za l q) i) (fun (zr : Int) => (XE.ret, frm [(4, .i .i64 zr)], [])) (fun (zr : Unit) => (XE.exit 0, frm [], [])) := by
 obtain ⟨rfl⟩ := H1
 rw [Qy]
 simp -dsimp only [↓evA, evB, Qo, Tryz.func140, Tryz.f140, QDl, Qrp, TP, TZ, Nat.reduceAdd, Nat.reduceMul, Nat.reduceBEq, Nat.reduceLeDiff, Nat.reduceLT]
 apply Qs i
 intro i
 simp -dsimp +contextual only [↓evA, eZ, Nat.reduceAdd, Nat.reduceMul, Nat.reduceBEq, Nat.reduceLeDiff, Nat.reduceLT]
 try simp only [Za, eY]
 all_goals rfl
theorem Qgb (q) {R1 l} [H1 : EncL Vp R1 l] : CP T (n + 2) 140 [.imm 2 R1, .i .i64 q] = (Qbf l q).map fun r => .i .i64 r := by
 obtain ⟨rfl⟩ := H1
 rw [Qf]
 simp -dsimp +contextual only [↓evA, eZ, Nat.reduceAdd, Nat.reduceMul, Nat.reduceBEq, Nat.reduceLeDiff, Nat.reduceLT, Tryz.func140, Tryz.f140, QDl, Qrp, QiC]
 try simp only [Qbf, eY]
 all_goals rfl
theorem QnC (c) {R1 a} [H1 : EncR QV R1 a] : CP T (n + 7) 86 [.agg R1, .i .i64 c] = (QbN a c).map fun r => .i .i64 r := by
 obtain ⟨rfl⟩ := H1
 rw [Qf]
 simp -dsimp +contextual (maxSteps := 100000000) only [↓evA, eZ, Nat.reduceAdd, Nat.reduceMul, Nat.reduceBEq, Nat.reduceLeDiff, Nat.reduceLT, Tryz.func86, Tryz.f86, QRK, QBu, Qb6, Qma, Qel, Qd0, Qgb]
 try simp only [QbN, eY]
 all_goals rfl
theorem QhZ (a) {R1 c} [H1 : EncR QK R1 c] : CA T (n + 3) 42 [some (Ent.box R1)] [.ptr 0 0 0, .i .i64 a] = (QbD c a).map fun r => (.b r.2, [some (Ent.box (QK r.1))]) := by
 obtain ⟨rfl⟩ := H1
 rw [Qa2]
 simp -dsimp +contextual (maxSteps := 100000000) only [↓evA, eZ, Nat.reduceAdd, Nat.reduceMul, Nat.reduceBEq, Nat.reduceLeDiff, Nat.reduceLT, Tryz.func42, Tryz.f42, QU5, QCh, srt, Qz]
 try simp only [QbD, eY]
 all_goals rfl
theorem Qjs (a2) {R1 l R2 a} [H1 : EncL Vp R1 l] [H2 : EncR QS R2 a] : CP T (n + 7) 142 [.imm 2 R1, .agg R2, .i .i64 a2] = (Qa0 l a a2).map fun r => .tup [.agg (QS r.1), .b r.2] := by
 rcases H1, H2 with ⟨⟨rfl⟩, ⟨rfl⟩⟩
 rw [Qf]
 simp -dsimp +contextual only [↓evA, eZ, Nat.reduceAdd, Nat.reduceMul, Nat.reduceBEq, Nat.reduceLeDiff, Nat.reduceLT, Tryz.func142, Tryz.f142, QNB, QtT, Qd0, Qgb]
 try simp only [Qa0, eY]
 all_goals rfl
theorem Qjq (a2 a3) {R1 a} [H1 : EncR QV R1 a] : CP T (n + 13) 87 [.agg R1, .i .i64 a2, .i .i64 a3] = (VR a a2 a3).map fun r => .tup [.agg (VU r.1), .b r.2] := by
 obtain ⟨rfl⟩ := H1
 rw [Qf]
 simp -dsimp +contextual (maxSteps := 100000000) only [↓evA, eZ, Nat.reduceAdd, Nat.reduceMul, Nat.reduceBEq, Nat.reduceLeDiff, Nat.reduceLT, Tryz.func87, Tryz.f87, QSA, QCU, srt, Jo, Qb6, Qdg, Qel, Qjs, Qdc, QbI]
 try simp only [VR, eY]
 all_goals rfl
theorem Qi3 (axNo axNow a2) {R1 c R2 axFinds R3 axSecrets R4 axSlots R5 axClaims R6 axTrials R7 axChain R8 axBook} [H1 : EncR QK R1 c] [H2 : EncL QE R2 axFinds] [H3 : EncL QB R3 axSecrets] [H4 : EncL QX R4 axSlots] [H5 : EncL Qj R5 axClaims] [H6 : EncL QS R6 axTrials] [H7 : EncL Vv R7 axChain] [H8 : EncL Vk R8 axBook] : LP T (n + 15) 40 4 (frm [(0, .ptr 0 0 0), (2, .ptr 1 0 0), (3, .ptr 2 0 0), (5, .i .i64 a2)]) [some (Ent.box R1), some (Ent.box [.i .i64 0, .nil, .nil, .nil, .nil, .nil, .nil, .nil, .i .i64 0]), some (Ent.box [.i .i64 axNo, .sl 3, .sl 4, .sl 5, .sl 6, .sl 7, .sl 8, .sl 9, .i .i64 axNow]), some (Ent.lst 8 R2), some (Ent.lst 3 R3), some (Ent.lst 3 R4), some (Ent.lst 5 R5), some (Ent.lst 4 R6), some (Ent.lst 5 R7), some (Ent.lst 4 R8)] =
  (run ZK (c, (⟨axNo, axFinds, axSecrets, axSlots, axClaims, axTrials, axChain, axBook, axNow⟩ : House), a2)).map (fun (zr : l1Cur × House) => (XE.exit 0, frm [(0, .ptr 0 0 0), (2, .ptr 1 0 0), (3, .ptr 2 0 0)], [some (Ent.box (QK zr.1)), some (Ent.box [.i .i64 0, .nil, .nil, .nil, .nil, .nil, .nil, .nil, .i .i64 0]), some (Ent.box [.i .i64 zr.2.No, .sl 3, .sl 4, .sl 5, .sl 6, .sl 7, .sl 8, .sl 9, .i .i64 zr.2.Now]), some (Ent.lst 8 (zr.2.Finds.map QE)), some (Ent.lst 3 (zr.2.Secrets.map QB)), some (Ent.lst 3 (zr.2.Slots.map QX)), some (Ent.lst 5 (zr.2.Claims.map Qj)), some (Ent.lst 4 (zr.2.Trials.map QS)), some (Ent.lst 5 (zr.2.Chain.map Vv)), some (Ent.lst 4 (zr.2.Book.map Vk))])) := by
 rcases H1, H2, H3, H4, H5, H6, H7, H8 with ⟨⟨rfl⟩, ⟨rfl⟩, ⟨rfl⟩, ⟨rfl⟩, ⟨rfl⟩, ⟨rfl⟩, ⟨rfl⟩, ⟨rfl⟩⟩
 rw [Qy]
 simp -dsimp only [↓evA, evB, Qo, Tryz.func40, Tryz.f40, QHB, Qvc, TP, TZ, Nat.reduceAdd, Nat.reduceMul, Nat.reduceBEq, Nat.reduceLeDiff, Nat.reduceLT]
 refine run_map (fun (zs : l1Cur × House × Int) => (frm [(0, .ptr 0 0 0), (2, .ptr 1 0 0), (3, .ptr 2 0 0), (5, .i .i64 zs.2.2)], [some (Ent.box (QK zs.1)), some (Ent.box [.i .i64 0, .nil, .nil, .nil, .nil, .nil, .nil, .nil, .i .i64 0]), some (Ent.box [.i .i64 zs.2.1.No, .sl 3, .sl 4, .sl 5, .sl 6, .sl 7, .sl 8, .sl 9, .i .i64 zs.2.1.Now]), some (Ent.lst 8 (zs.2.1.Finds.map QE)), some (Ent.lst 3 (zs.2.1.Secrets.map QB)), some (Ent.lst 3 (zs.2.1.Slots.map QX)), some (Ent.lst 5 (zs.2.1.Claims.map Qj)), some (Ent.lst 4 (zs.2.1.Trials.map QS)), some (Ent.lst 5 (zs.2.1.Chain.map Vv)), some (Ent.lst 4 (zs.2.1.Book.map Vk))])) _ ?_ (c, (⟨axNo, axFinds, axSecrets, axSlots, axClaims, axTrials, axChain, axBook, axNow⟩ : House), a2)
 rintro ⟨c, a, a2⟩
 simp -dsimp +contextual (maxSteps := 100000000) only [↓evA, eZ, Nat.reduceAdd, Nat.reduceMul, Nat.reduceBEq, Nat.reduceLeDiff, Nat.reduceLT, srt, Qz, QiF]
 try simp only [ZK, eY]
 try simp only [List.contains_nil, Bool.not_false, Bool.and_true, VK, List.length_append, List.length_cons, List.length_nil, Nat.zero_add, VL, V0]
 all_goals rfl
theorem QjW (axNo axNow a2) {R1 c R2 axFinds R3 axSecrets R4 axSlots R5 axClaims R6 axTrials R7 axChain R8 axBook} [H1 : EncR QK R1 c] [H2 : EncL QE R2 axFinds] [H3 : EncL QB R3 axSecrets] [H4 : EncL QX R4 axSlots] [H5 : EncL Qj R5 axClaims] [H6 : EncL QS R6 axTrials] [H7 : EncL Vv R7 axChain] [H8 : EncL Vk R8 axBook] : LP T (n + 14) 40 8 (frm [(0, .ptr 0 0 0), (2, .ptr 1 0 0), (3, .ptr 2 0 0), (6, .i .i64 a2)]) [some (Ent.box R1), some (Ent.box [.i .i64 0, .nil, .nil, .nil, .nil, .nil, .nil, .nil, .i .i64 0]), some (Ent.box [.i .i64 axNo, .sl 3, .sl 4, .sl 5, .sl 6, .sl 7, .sl 8, .sl 9, .i .i64 axNow]), some (Ent.lst 8 R2), some (Ent.lst 3 R3), some (Ent.lst 3 R4), some (Ent.lst 5 R5), some (Ent.lst 4 R6), some (Ent.lst 5 R7), some (Ent.lst 4 R8)] =
  (run ZB (c, (⟨axNo, axFinds, axSecrets, axSlots, axClaims, axTrials, axChain, axBook, axNow⟩ : House), a2)).map (fun (zr : l1Cur × House) => (XE.exit 2, frm [(0, .ptr 0 0 0), (2, .ptr 1 0 0), (3, .ptr 2 0 0)], [some (Ent.box (QK zr.1)), some (Ent.box [.i .i64 0, .nil, .nil, .nil, .nil, .nil, .nil, .nil, .i .i64 0]), some (Ent.box [.i .i64 zr.2.No, .sl 3, .sl 4, .sl 5, .sl 6, .sl 7, .sl 8, .sl 9, .i .i64 zr.2.Now]), some (Ent.lst 8 (zr.2.Finds.map QE)), some (Ent.lst 3 (zr.2.Secrets.map QB)), some (Ent.lst 3 (zr.2.Slots.map QX)), some (Ent.lst 5 (zr.2.Claims.map Qj)), some (Ent.lst 4 (zr.2.Trials.map QS)), some (Ent.lst 5 (zr.2.Chain.map Vv)), some (Ent.lst 4 (zr.2.Book.map Vk))])) := by
 rcases H1, H2, H3, H4, H5, H6, H7, H8 with ⟨⟨rfl⟩, ⟨rfl⟩, ⟨rfl⟩, ⟨rfl⟩, ⟨rfl⟩, ⟨rfl⟩, ⟨rfl⟩, ⟨rfl⟩⟩
 rw [Qy]
 simp -dsimp only [↓evA, evB, Qo, Tryz.func40, Tryz.f40, QHB, Qvc, TP, TZ, Nat.reduceAdd, Nat.reduceMul, Nat.reduceBEq, Nat.reduceLeDiff, Nat.reduceLT]
 refine run_map (fun (zs : l1Cur × House × Int) => (frm [(0, .ptr 0 0 0), (2, .ptr 1 0 0), (3, .ptr 2 0 0), (6, .i .i64 zs.2.2)], [some (Ent.box (QK zs.1)), some (Ent.box [.i .i64 0, .nil, .nil, .nil, .nil, .nil, .nil, .nil, .i .i64 0]), some (Ent.box [.i .i64 zs.2.1.No, .sl 3, .sl 4, .sl 5, .sl 6, .sl 7, .sl 8, .sl 9, .i .i64 zs.2.1.Now]), some (Ent.lst 8 (zs.2.1.Finds.map QE)), some (Ent.lst 3 (zs.2.1.Secrets.map QB)), some (Ent.lst 3 (zs.2.1.Slots.map QX)), some (Ent.lst 5 (zs.2.1.Claims.map Qj)), some (Ent.lst 4 (zs.2.1.Trials.map QS)), some (Ent.lst 5 (zs.2.1.Chain.map Vv)), some (Ent.lst 4 (zs.2.1.Book.map Vk))])) _ ?_ (c, (⟨axNo, axFinds, axSecrets, axSlots, axClaims, axTrials, axChain, axBook, axNow⟩ : House), a2)
 rintro ⟨c, a, a2⟩
 simp -dsimp +contextual (maxSteps := 100000000) only [↓evA, eZ, Nat.reduceAdd, Nat.reduceMul, Nat.reduceBEq, Nat.reduceLeDiff, Nat.reduceLT, srt, Qz, Qke, Xx, Qlj, Qkb, QnC, QhZ, Qjq]
 try simp only [ZB, eY]
 try simp only [List.contains_nil, Bool.not_false, Bool.and_true, VK, List.length_append, List.length_cons, List.length_nil, Nat.zero_add, VL, V0]
 all_goals rfl
theorem QmS {R1 c} [H1 : EncR QK R1 c] : CA T (n + 16) 40 [some (Ent.box R1)] [.ptr 0 0 0] = (Qdd c).map fun r => (.agg [.i .i64 r.2.No, .sl 1, .sl 2, .sl 3, .sl 4, .sl 5, .sl 6, .sl 7, .i .i64 r.2.Now], [some (Ent.box (QK r.1)), some (Ent.lst 8 (r.2.Finds.map QE)), some (Ent.lst 3 (r.2.Secrets.map QB)), some (Ent.lst 3 (r.2.Slots.map QX)), some (Ent.lst 5 (r.2.Claims.map Qj)), some (Ent.lst 4 (r.2.Trials.map QS)), some (Ent.lst 5 (r.2.Chain.map Vv)), some (Ent.lst 4 (r.2.Book.map Vk))]) := by
 obtain ⟨rfl⟩ := H1
 rw [Qa2]
 simp -dsimp +contextual (maxSteps := 100000000) only [↓evA, eZ, Nat.reduceAdd, Nat.reduceMul, Nat.reduceBEq, Nat.reduceLeDiff, Nat.reduceLT, Tryz.func40, Tryz.f40, QHB, Qvc, srt, Qz, Qf3, Qf8, Qi3, QjW]
 try simp only [Qdd, eY]
 all_goals rfl
theorem Qgf {R1 c} [H1 : EncL Qdt R1 c] : CP T (n + 17) 13 [.imm 1 R1] = (JO c).map fun r => .tup [.agg (VU r.1), .agg (Qcx r.2)] := by
 obtain ⟨rfl⟩ := H1
 rw [Qf]
 simp -dsimp +contextual only [↓evA, eZ, Nat.reduceAdd, Nat.reduceMul, Nat.reduceBEq, Nat.reduceLeDiff, Nat.reduceLT, Tryz.func13, Tryz.f13, QU9, QBM, srt, QfN, QmS, Qh0, QhZ, Qz]
 try simp only [JO, eY]
 try simp only [List.contains_nil, Bool.not_false, Bool.and_true, VK, List.length_append, List.length_cons, List.length_nil, Nat.zero_add, VL, V0]
 all_goals rfl
theorem Qj8 (k) : CP T (n + 1) 15 [.i .i64 k] = (QbH k).map fun r => .s r := by
 rw [Qf]
 simp -dsimp +contextual only [↓evA, eZ, Nat.reduceAdd, Nat.reduceMul, Nat.reduceBEq, Nat.reduceLeDiff, Nat.reduceLT, Tryz.func15, Tryz.f15, QSl, QBf]
 try simp only [QbH, eY]
 all_goals rfl
theorem Qlo {R1 c} [H1 : EncL Qdt R1 c] : CP T (n + 18) 3 [.imm 1 R1] = (QdC c).map fun r => .b r := by
 obtain ⟨rfl⟩ := H1
 rw [Qf]
 simp -dsimp +contextual only [↓evA, eZ, Nat.reduceAdd, Nat.reduceMul, Nat.reduceBEq, Nat.reduceLeDiff, Nat.reduceLT, Tryz.func3, Tryz.f3, Aa3, An3, Qr8, Qgq, Qj6, Qvy, Zm, Qij, QiD, Qim, Qni, Qgf, QeA, Qj8]
 try simp only [QdC, eY]
 all_goals rfl
end Go.Proofs.YtponohekgnklkaaGreat
