import Derived.Test.YtponohekgnklkaaGreatEq3
namespace Go.Proofs.YtponohekgnklkaaGreat
open Go Go.Proofs Go.Proofs.YtponohekgnklkaaGreat.Am
set_option maxHeartbeats 4000000
set_option linter.unusedVariables false
set_option linter.unusedSimpArgs false
set_option linter.defProp false
set_option maxRecDepth 100000
variable (n : Nat)
theorem Qbv {R1 s R2 c} [H1 : EncL Qj R1 s] [H2 : EncR Qbm R2 c] : CP T (n + 3) 154 [.imm 5 R1, .clo 162 [.iptr 5 [R2] 0 0]] = (VE s c).map fun r => .i .i64 r := by
 rcases H1, H2 with ⟨⟨rfl⟩, ⟨rfl⟩⟩
 rw [Qf]
 simp -dsimp +contextual only [↓evA, eZ, Nat.reduceAdd, Nat.reduceMul, Nat.reduceBEq, Nat.reduceLeDiff, Nat.reduceLT, Tryz.func154, Tryz.f154, Qor, QiW, QaM]
 try simp only [VE, eY]
 all_goals rfl
theorem QaP {R1 s R2 c} [H1 : EncL Qj R1 s] [H2 : EncR Qbm R2 c] : CP T (n + 4) 149 [.imm 5 R1, .clo 162 [.iptr 5 [R2] 0 0]] = (Q0 s c).map fun r => .b r := by
 rcases H1, H2 with ⟨⟨rfl⟩, ⟨rfl⟩⟩
 rw [Qf]
 simp -dsimp +contextual only [↓evA, eZ, Nat.reduceAdd, Nat.reduceMul, Nat.reduceBEq, Nat.reduceLeDiff, Nat.reduceLT, Tryz.func149, Tryz.f149, QD7, QpU, Qbv]
 try simp only [Q0, eY]
 all_goals rfl
theorem QhR (a) {R1 f R2 l} [H1 : EncR QE R1 f] [H2 : EncL Qj R2 l] : CP T (n + 6) 106 [.agg R1, .imm 5 R2, .i .i64 a] = (QcQ f l a).map fun r => .i .i64 r := by
 rcases H1, H2 with ⟨⟨rfl⟩, ⟨rfl⟩⟩
 rw [Qf]
 simp -dsimp +contextual only [↓evA, eZ, Nat.reduceAdd, Nat.reduceMul, Nat.reduceBEq, Nat.reduceLeDiff, Nat.reduceLT, Tryz.func106, Tryz.f106, QI4, Qtd, Qev, QpL, QaP]
 try simp only [QcQ, eY]
 all_goals rfl
theorem QgV (c a3 a5 a6) {R1 a R2 a2 R3 a4} [H1 : EncL VP R1 a] [H2 : EncL VP R2 a2] [H3 : EncL VP R3 a4] : LP T (n + 2) 163 6 (frm [(0, .i .i64 c), (1, .imm 1 R1), (5, .sl 0), (6, .i .i64 a3), (25, .imm 1 R3), (26, .i .i64 a5), (27, .i .i64 a6)]) [some (Ent.lst 1 R2)] =
  Jd (run (Jb c a a2 a4 a5) (a3, a6)) (fun (zr : (List Int)) => (XE.ret, frm [(4, .sl 0)], [some (Ent.lst 1 (zr.map VP))])) (fun (zr : Int) => (XE.exit 0, frm [(0, .i .i64 c), (1, .imm 1 (a.map VP)), (5, .sl 0), (6, .i .i64 zr)], [some (Ent.lst 1 (a2.map VP))])) := by
 rcases H1, H2, H3 with ⟨⟨rfl⟩, ⟨rfl⟩, ⟨rfl⟩⟩
 rw [Qy]
 simp -dsimp only [↓evA, evB, Qo, Tryz.func163, Tryz.f163, Qtc, Ql8, TP, TZ, Nat.reduceAdd, Nat.reduceMul, Nat.reduceBEq, Nat.reduceLeDiff, Nat.reduceLT]
 apply VS a3 a6
 intro a3 a6
 simp -dsimp +contextual only [↓evA, eZ, Nat.reduceAdd, Nat.reduceMul, Nat.reduceBEq, Nat.reduceLeDiff, Nat.reduceLT, Q3]
 try simp only [Jb, eY]
 all_goals rfl
theorem Qgj (c a2 a3 a5 a6) {R1 a R2 a4} [H1 : EncL VP R1 a] [H2 : EncL VP R2 a4] : LP T (n + 1) 163 16 (frm [(0, .i .i64 c), (5, .sl 0), (6, .i .i64 a2), (9, .i .i64 a3), (43, .imm 1 R2), (44, .i .i64 a5), (45, .i .i64 a6)]) [some (Ent.lst 1 R1)] =
  (run (Xc c a2 a4 a5) (a, a3, a6)).map (fun (zr : (List Int) × Int) => (XE.exit 2, frm [(5, .sl 0), (9, .i .i64 zr.2)], [some (Ent.lst 1 (zr.1.map VP))])) := by
 rcases H1, H2 with ⟨⟨rfl⟩, ⟨rfl⟩⟩
 rw [Qy]
 simp -dsimp only [↓evA, evB, Qo, Tryz.func163, Tryz.f163, Qtc, Ql8, TP, TZ, Nat.reduceAdd, Nat.reduceMul, Nat.reduceBEq, Nat.reduceLeDiff, Nat.reduceLT]
 apply Qcp a a3 a6
 intro a a3 a6
 simp -dsimp +contextual only [↓evA, eZ, Nat.reduceAdd, Nat.reduceMul, Nat.reduceBEq, Nat.reduceLeDiff, Nat.reduceLT]
 try simp only [Xc, eY]
 all_goals rfl
theorem Qgl (a2 a3) {R1 a} [H1 : EncL VP R1 a] : LP T (n + 1) 163 23 (frm [(5, .sl 0), (9, .i .i64 a2), (13, .i .i64 a3)]) [some (Ent.lst 1 R1)] =
  (run XZ (a, a2, a3)).map (fun (zr : (List Int)) => (XE.exit 4, frm [(5, .sl 0)], [some (Ent.lst 1 (zr.map VP))])) := by
 obtain ⟨rfl⟩ := H1
 rw [Qy]
 simp -dsimp only [↓evA, evB, Qo, Tryz.func163, Tryz.f163, Qtc, Ql8, TP, TZ, Nat.reduceAdd, Nat.reduceMul, Nat.reduceBEq, Nat.reduceLeDiff, Nat.reduceLT]
 apply Qcp a a2 a3
 intro a a2 a3
 simp -dsimp +contextual only [↓evA, eZ, Nat.reduceAdd, Nat.reduceMul, Nat.reduceBEq, Nat.reduceLeDiff, Nat.reduceLT]
 try simp only [XZ, eY]
 all_goals rfl
theorem Qjc (c) {R1 a} [H1 : EncL VP R1 a] : CP T (n + 3) 163 [.i .i64 c, .imm 1 R1] = (Qa7 c a).map fun r => .own 1 (r.map VP) := by
 obtain ⟨rfl⟩ := H1
 rw [Qf]
 simp -dsimp +contextual only [↓evA, eZ, Nat.reduceAdd, Nat.reduceMul, Nat.reduceBEq, Nat.reduceLeDiff, Nat.reduceLT, Tryz.func163, Tryz.f163, Qtc, Ql8, Q3, QgV, Qgj, Qgl]
 try simp only [Qa7, eY]
 all_goals first | rfl | (simp +contextual only [evN] <;> rfl)
theorem Qm1 (p f) : CP T (n + 4) 107 [.i .i64 p, .i .i64 f] = (QbW p f).map fun r => .own 2 (r.map QkG) := by
 rw [Qf]
 simp -dsimp +contextual only [↓evA, eZ, Nat.reduceAdd, Nat.reduceMul, Nat.reduceBEq, Nat.reduceLeDiff, Nat.reduceLT, Tryz.func107, Tryz.f107, QP7, Qtt, Q3, Qjc]
 try simp only [QbW, eY]
 all_goals first | rfl | (simp +contextual only [evN] <;> rfl)
theorem Qli (a2) {R1 a R2 a3} [H1 : EncR QV R1 a] [H2 : EncL Ju R2 a3] : CP T (n + 13) 48 [.agg R1, .i .i64 a2, .imm 3 R2] = (Qcm a a2 a3).map fun r => .tup [.agg (VU r.1), .b r.2] := by
 rcases H1, H2 with ⟨⟨rfl⟩, ⟨rfl⟩⟩
 rw [Qf]
 simp -dsimp +contextual (maxSteps := 100000000) only [↓evA, eZ, Nat.reduceAdd, Nat.reduceMul, Nat.reduceBEq, Nat.reduceLeDiff, Nat.reduceLT, Tryz.func48, Tryz.f48, QVI, QBS, srt, Qe2, QnL, QhR, Ve, Qe6, Qga, Qm1, Qay]
 try simp only [Qcm, eY]
 all_goals rfl
theorem Qkz {R1 a R2 o R3 d} [H1 : EncR QV R1 a] [H2 : EncR QV R2 o] [H3 : EncL c_b R3 d] : CM T (n + 12) 94 [some (Ent.lst 1 R3)] [.agg R1, .agg R2, .sl 0] = (Qas a o d).map fun r => .tup [.agg (VU r.1), .b r.2] := by
 rcases H1, H2, H3 with ⟨⟨rfl⟩, ⟨rfl⟩, ⟨rfl⟩⟩
 rw [Qoi]
 simp -dsimp +contextual (maxSteps := 100000000) only [↓evA, eZ, Nat.reduceAdd, Nat.reduceMul, Nat.reduceBEq, Nat.reduceLeDiff, Nat.reduceLT, Tryz.func94, Tryz.f94, QGL, Qvi, QaL, Zm, Ve]
 try simp only [Qas, eY]
 all_goals rfl
theorem Qkv (a2) {R1 a} [H1 : EncR QV R1 a] : CP T (n + 13) 49 [.agg R1, .i .i64 a2] = (QbA a a2).map fun r => .tup [.agg (VU r.1), .b r.2] := by
 obtain ⟨rfl⟩ := H1
 rw [Qf]
 simp -dsimp +contextual (maxSteps := 100000000) only [↓evA, eZ, Nat.reduceAdd, Nat.reduceMul, Nat.reduceBEq, Nat.reduceLeDiff, Nat.reduceLT, Tryz.func49, Tryz.f49, QUO, Qz0, srt, Qe2, Ve, QhR, Qe6, Qay, Qkz]
 try simp only [QbA, eY]
 all_goals rfl
theorem Qlw (a2) {R1 a} [H1 : EncR QV R1 a] : CP T (n + 13) 50 [.agg R1, .i .i64 a2] = (Qcs a a2).map fun r => .tup [.agg (VU r.1), .b r.2] := by
 obtain ⟨rfl⟩ := H1
 rw [Qf]
 simp -dsimp +contextual (maxSteps := 100000000) only [↓evA, eZ, Nat.reduceAdd, Nat.reduceMul, Nat.reduceBEq, Nat.reduceLeDiff, Nat.reduceLT, Tryz.func50, Tryz.f50, QSu, QBN, srt, Ve, Q3, Qay]
 try simp only [Qcs, eY]
 all_goals rfl
theorem QeA {R1 a R2 a2} [H1 : EncR QV R1 a] [H2 : EncR QfW R2 a2] : CP T (n + 14) 14 [.agg R1, .agg R2] = (ZL a a2).map fun r => .tup [.agg (VU r.1), .b r.2] := by
 rcases H1, H2 with ⟨⟨rfl⟩, ⟨rfl⟩⟩
 rw [Qf]
 simp -dsimp +contextual (maxSteps := 100000000) only [↓evA, eZ, Nat.reduceAdd, Nat.reduceMul, Nat.reduceBEq, Nat.reduceLeDiff, Nat.reduceLT, Tryz.func14, Tryz.f14, QVa, QCK, Qlz, QkN, Qi1, Qkd, Qli, Qkv, Qlw, Ve]
 try simp only [ZL, eY]
 all_goals rfl
theorem QhI (oxNo oxNow a2 a3) {R1 oxFinds R2 oxSecrets R3 oxSlots R4 oxClaims R5 oxTrials R6 oxChain R7 oxBook R8 a} [H1 : EncL QE R1 oxFinds] [H2 : EncL QB R2 oxSecrets] [H3 : EncL QX R3 oxSlots] [H4 : EncL Qj R4 oxClaims] [H5 : EncL QS R5 oxTrials] [H6 : EncL Vv R6 oxChain] [H7 : EncL Vk R7 oxBook] [H8 : EncL QfW R8 a] : LP T (n + 15) 6 3 (frm [(4, .ptr 0 0 0), (5, .ptr 1 0 0), (10, .imm 14 R8), (11, .i .i64 a2), (12, .i .i64 a3)]) [some (Ent.box [.i .i64 0, .nil, .nil, .nil, .nil, .nil, .nil, .nil, .i .i64 0]), some (Ent.box [.i .i64 oxNo, .sl 2, .sl 3, .sl 4, .sl 5, .sl 6, .sl 7, .sl 8, .i .i64 oxNow]), some (Ent.lst 8 R1), some (Ent.lst 3 R2), some (Ent.lst 3 R3), some (Ent.lst 5 R4), some (Ent.lst 4 R5), some (Ent.lst 5 R6), some (Ent.lst 4 R7)] =
  (run (Xf a a2) ((⟨oxNo, oxFinds, oxSecrets, oxSlots, oxClaims, oxTrials, oxChain, oxBook, oxNow⟩ : House), a3)).map (fun (zr : House) => (XE.exit 0, frm [(4, .ptr 0 0 0), (5, .ptr 1 0 0)], [some (Ent.box [.i .i64 0, .nil, .nil, .nil, .nil, .nil, .nil, .nil, .i .i64 0]), some (Ent.box [.i .i64 zr.No, .sl 2, .sl 3, .sl 4, .sl 5, .sl 6, .sl 7, .sl 8, .i .i64 zr.Now]), some (Ent.lst 8 (zr.Finds.map QE)), some (Ent.lst 3 (zr.Secrets.map QB)), some (Ent.lst 3 (zr.Slots.map QX)), some (Ent.lst 5 (zr.Claims.map Qj)), some (Ent.lst 4 (zr.Trials.map QS)), some (Ent.lst 5 (zr.Chain.map Vv)), some (Ent.lst 4 (zr.Book.map Vk))])) := by
 rcases H1, H2, H3, H4, H5, H6, H7, H8 with ⟨⟨rfl⟩, ⟨rfl⟩, ⟨rfl⟩, ⟨rfl⟩, ⟨rfl⟩, ⟨rfl⟩, ⟨rfl⟩, ⟨rfl⟩⟩
 rw [Qy]
 simp -dsimp only [↓evA, evB, Qo, Tryz.func6, Tryz.f6, Aa6, An6, TP, TZ, Nat.reduceAdd, Nat.reduceMul, Nat.reduceBEq, Nat.reduceLeDiff, Nat.reduceLT]
 refine run_map (fun (zs : House × Int) => (frm [(4, .ptr 0 0 0), (5, .ptr 1 0 0), (10, .imm 14 (a.map QfW)), (11, .i .i64 a2), (12, .i .i64 zs.2)], [some (Ent.box [.i .i64 0, .nil, .nil, .nil, .nil, .nil, .nil, .nil, .i .i64 0]), some (Ent.box [.i .i64 zs.1.No, .sl 2, .sl 3, .sl 4, .sl 5, .sl 6, .sl 7, .sl 8, .i .i64 zs.1.Now]), some (Ent.lst 8 (zs.1.Finds.map QE)), some (Ent.lst 3 (zs.1.Secrets.map QB)), some (Ent.lst 3 (zs.1.Slots.map QX)), some (Ent.lst 5 (zs.1.Claims.map Qj)), some (Ent.lst 4 (zs.1.Trials.map QS)), some (Ent.lst 5 (zs.1.Chain.map Vv)), some (Ent.lst 4 (zs.1.Book.map Vk))])) _ ?_ ((⟨oxNo, oxFinds, oxSecrets, oxSlots, oxClaims, oxTrials, oxChain, oxBook, oxNow⟩ : House), a3)
 rintro ⟨o, a3⟩
 simp -dsimp +contextual (maxSteps := 100000000) only [↓evA, eZ, Nat.reduceAdd, Nat.reduceMul, Nat.reduceBEq, Nat.reduceLeDiff, Nat.reduceLT, QeA]
 try simp only [Xf, eY]
 all_goals rfl
theorem Qj6 {R1 a R2 l} [H1 : EncR QV R1 a] [H2 : EncL QfW R2 l] : CP T (n + 16) 6 [.agg R1, .imm 14 R2] = (Xo a l).map fun r => .agg (VU r) := by
 rcases H1, H2 with ⟨⟨rfl⟩, ⟨rfl⟩⟩
 rw [Qf]
 simp -dsimp +contextual (maxSteps := 100000000) only [↓evA, eZ, Nat.reduceAdd, Nat.reduceMul, Nat.reduceBEq, Nat.reduceLeDiff, Nat.reduceLT, Tryz.func6, Tryz.f6, Aa6, An6, Ve, QhI]
 try simp only [Xo, eY]
 all_goals rfl
theorem Qvy (i) {R1 c} [H1 : EncL Qdt R1 c] : CP T (n + 1) 7 [.imm 1 R1, .i .i64 i] = (Qg9 c i).map fun r => .i .i64 r := by
 obtain ⟨rfl⟩ := H1
 rw [Qf]
 simp -dsimp +contextual only [↓evA, eZ, Nat.reduceAdd, Nat.reduceMul, Nat.reduceBEq, Nat.reduceLeDiff, Nat.reduceLT, Tryz.func7, Tryz.f7, Aa7, An7]
 try simp only [Qg9, eY]
 all_goals rfl
theorem QfD (a a2) {R1 s R2 s2} [H1 : EncL QE R1 s] [H2 : EncL QE R2 s2] : LP T (n + 1) 30 4 (frm [(0, .imm 8 R1), (1, .imm 8 R2), (12, .i .i64 a), (13, .i .i64 a2)]) [] =
  Jd (run (V7 s s2 a) a2) (fun (zr : Bool) => (XE.ret, frm [(4, .b zr)], [])) (fun (zr : Unit) => (XE.exit 0, frm [], [])) := by
 rcases H1, H2 with ⟨⟨rfl⟩, ⟨rfl⟩⟩
 rw [Qy]
 simp -dsimp only [↓evA, evB, Qo, Tryz.func30, Tryz.f30, QKT, Qzn, TP, TZ, Nat.reduceAdd, Nat.reduceMul, Nat.reduceBEq, Nat.reduceLeDiff, Nat.reduceLT]
 apply Qs a2
 intro a2
 simp -dsimp +contextual only [↓evA, eZ, Nat.reduceAdd, Nat.reduceMul, Nat.reduceBEq, Nat.reduceLeDiff, Nat.reduceLT]
 try simp only [V7, eY]
 all_goals rfl
theorem QhJ {R1 s R2 s2} [H1 : EncL QE R1 s] [H2 : EncL QE R2 s2] : CP T (n + 2) 30 [.imm 8 R1, .imm 8 R2] = (ZV s s2).map fun r => .b r := by
 rcases H1, H2 with ⟨⟨rfl⟩, ⟨rfl⟩⟩
 rw [Qf]
 simp -dsimp +contextual only [↓evA, eZ, Nat.reduceAdd, Nat.reduceMul, Nat.reduceBEq, Nat.reduceLeDiff, Nat.reduceLT, Tryz.func30, Tryz.f30, QKT, Qzn, QfD]
 try simp only [ZV, eY]
 all_goals rfl
theorem QfH (a a2) {R1 s R2 s2} [H1 : EncL Vp R1 s] [H2 : EncL Vp R2 s2] : LP T (n + 1) 76 4 (frm [(0, .imm 2 R1), (1, .imm 2 R2), (12, .i .i64 a), (13, .i .i64 a2)]) [] =
  Jd (run (V5 s s2 a) a2) (fun (zr : Bool) => (XE.ret, frm [(4, .b zr)], [])) (fun (zr : Unit) => (XE.exit 0, frm [], [])) := by
 rcases H1, H2 with ⟨⟨rfl⟩, ⟨rfl⟩⟩
 rw [Qy]
 simp -dsimp only [↓evA, evB, Qo, Tryz.func76, Tryz.f76, QPw, QzD, TP, TZ, Nat.reduceAdd, Nat.reduceMul, Nat.reduceBEq, Nat.reduceLeDiff, Nat.reduceLT]
 apply Qs a2
 intro a2
 simp -dsimp +contextual only [↓evA, eZ, Nat.reduceAdd, Nat.reduceMul, Nat.reduceBEq, Nat.reduceLeDiff, Nat.reduceLT]
 try simp only [V5, eY]
 all_goals rfl
theorem QhO {R1 s R2 s2} [H1 : EncL Vp R1 s] [H2 : EncL Vp R2 s2] : CP T (n + 2) 76 [.imm 2 R1, .imm 2 R2] = (ZU s s2).map fun r => .b r := by
 rcases H1, H2 with ⟨⟨rfl⟩, ⟨rfl⟩⟩
 rw [Qf]
 simp -dsimp +contextual only [↓evA, eZ, Nat.reduceAdd, Nat.reduceMul, Nat.reduceBEq, Nat.reduceLeDiff, Nat.reduceLT, Tryz.func76, Tryz.f76, QPw, QzD, QfH]
 try simp only [ZU, eY]
 all_goals rfl
theorem Qgm {R1 a R2 a2} [H1 : EncR Q4 R1 a] [H2 : EncR Q4 R2 a2] : CP T (n + 3) 75 [.agg R1, .agg R2] = (JT a a2).map fun r => .b r := by
 rcases H1, H2 with ⟨⟨rfl⟩, ⟨rfl⟩⟩
 rw [Qf]
 simp -dsimp +contextual only [↓evA, eZ, Nat.reduceAdd, Nat.reduceMul, Nat.reduceBEq, Nat.reduceLeDiff, Nat.reduceLT, Tryz.func75, Tryz.f75, QQp, QAS, QhO]
 try simp only [JT, eY]
 all_goals rfl
theorem Zr (a2 a3) {R1 s R2 a} [H1 : EncL Q4 R1 s] [H2 : EncL Q4 R2 a] : LP T (n + 4) 74 4 (frm [(1, .imm 3 R1), (2, .clo 75 []), (15, .imm 3 R2), (16, .i .i64 a2), (17, .i .i64 a3)]) [] =
  Jd (run (Qr s a a2) a3) (fun (zr : Bool) => (XE.ret, frm [(6, .b zr)], [])) (fun (zr : Unit) => (XE.exit 0, frm [], [])) := by
 rcases H1, H2 with ⟨⟨rfl⟩, ⟨rfl⟩⟩
 rw [Qy]
 simp -dsimp only [↓evA, evB, Qo, Tryz.func74, Tryz.f74, QKh, QxV, TP, TZ, Nat.reduceAdd, Nat.reduceMul, Nat.reduceBEq, Nat.reduceLeDiff, Nat.reduceLT]
 apply Qs a3
 intro a3
 simp -dsimp +contextual only [↓evA, eZ, Nat.reduceAdd, Nat.reduceMul, Nat.reduceBEq, Nat.reduceLeDiff, Nat.reduceLT, Qgm]
 try simp only [Qr, eY]
 all_goals rfl
theorem Z3 {R1 s R2 s2} [H1 : EncL Q4 R1 s] [H2 : EncL Q4 R2 s2] : CP T (n + 5) 74 [.imm 3 R1, .imm 3 R2, .clo 75 []] = (Vg s s2).map fun r => .b r := by
 rcases H1, H2 with ⟨⟨rfl⟩, ⟨rfl⟩⟩
 rw [Qf]
 simp -dsimp +contextual only [↓evA, eZ, Nat.reduceAdd, Nat.reduceMul, Nat.reduceBEq, Nat.reduceLeDiff, Nat.reduceLT, Tryz.func74, Tryz.f74, QKh, QxV, Zr]
 try simp only [Vg, eY]
 all_goals rfl
theorem QhL {R1 a R2 b} [H1 : EncL Q4 R1 a] [H2 : EncL Q4 R2 b] : CP T (n + 6) 31 [.imm 3 R1, .imm 3 R2] = (ZZ a b).map fun r => .b r := by
 rcases H1, H2 with ⟨⟨rfl⟩, ⟨rfl⟩⟩
 rw [Qf]
 simp -dsimp +contextual only [↓evA, eZ, Nat.reduceAdd, Nat.reduceMul, Nat.reduceBEq, Nat.reduceLeDiff, Nat.reduceLT, Tryz.func31, Tryz.f31, QTQ, QzV, Z3]
 try simp only [ZZ, eY]
 all_goals rfl
theorem QfM (a a2) {R1 s R2 s2} [H1 : EncL QX R1 s] [H2 : EncL QX R2 s2] : LP T (n + 1) 32 4 (frm [(0, .imm 3 R1), (1, .imm 3 R2), (12, .i .i64 a), (13, .i .i64 a2)]) [] =
  Jd (run (V3 s s2 a) a2) (fun (zr : Bool) => (XE.ret, frm [(4, .b zr)], [])) (fun (zr : Unit) => (XE.exit 0, frm [], [])) := by
 rcases H1, H2 with ⟨⟨rfl⟩, ⟨rfl⟩⟩
 rw [Qy]
 simp -dsimp only [↓evA, evB, Qo, Tryz.func32, Tryz.f32, QNh, Qy0, TP, TZ, Nat.reduceAdd, Nat.reduceMul, Nat.reduceBEq, Nat.reduceLeDiff, Nat.reduceLT]
 apply Qs a2
 intro a2
 simp -dsimp +contextual only [↓evA, eZ, Nat.reduceAdd, Nat.reduceMul, Nat.reduceBEq, Nat.reduceLeDiff, Nat.reduceLT]
 try simp only [V3, eY]
 all_goals rfl
theorem Qhx {R1 s R2 s2} [H1 : EncL QX R1 s] [H2 : EncL QX R2 s2] : CP T (n + 2) 32 [.imm 3 R1, .imm 3 R2] = (ZP s s2).map fun r => .b r := by
 rcases H1, H2 with ⟨⟨rfl⟩, ⟨rfl⟩⟩
 rw [Qf]
 simp -dsimp +contextual only [↓evA, eZ, Nat.reduceAdd, Nat.reduceMul, Nat.reduceBEq, Nat.reduceLeDiff, Nat.reduceLT, Tryz.func32, Tryz.f32, QNh, Qy0, QfM]
 try simp only [ZP, eY]
 all_goals rfl
theorem Qfv (a a2) {R1 s R2 s2} [H1 : EncL Qj R1 s] [H2 : EncL Qj R2 s2] : LP T (n + 1) 33 4 (frm [(0, .imm 5 R1), (1, .imm 5 R2), (12, .i .i64 a), (13, .i .i64 a2)]) [] =
  Jd (run (VX s s2 a) a2) (fun (zr : Bool) => (XE.ret, frm [(4, .b zr)], [])) (fun (zr : Unit) => (XE.exit 0, frm [], [])) := by
 rcases H1, H2 with ⟨⟨rfl⟩, ⟨rfl⟩⟩
 rw [Qy]
 simp -dsimp only [↓evA, evB, Qo, Tryz.func33, Tryz.f33, QOx, Qyi, TP, TZ, Nat.reduceAdd, Nat.reduceMul, Nat.reduceBEq, Nat.reduceLeDiff, Nat.reduceLT]
 apply Qs a2
 intro a2
 simp -dsimp +contextual only [↓evA, eZ, Nat.reduceAdd, Nat.reduceMul, Nat.reduceBEq, Nat.reduceLeDiff, Nat.reduceLT]
 try simp only [VX, eY]
 all_goals rfl
theorem QgI {R1 s R2 s2} [H1 : EncL Qj R1 s] [H2 : EncL Qj R2 s2] : CP T (n + 2) 33 [.imm 5 R1, .imm 5 R2] = (Zn s s2).map fun r => .b r := by
 rcases H1, H2 with ⟨⟨rfl⟩, ⟨rfl⟩⟩
 rw [Qf]
 simp -dsimp +contextual only [↓evA, eZ, Nat.reduceAdd, Nat.reduceMul, Nat.reduceBEq, Nat.reduceLeDiff, Nat.reduceLT, Tryz.func33, Tryz.f33, QOx, Qyi, Qfv]
 try simp only [Zn, eY]
 all_goals rfl
theorem Qfd (a a2) {R1 s R2 s2} [H1 : EncL QS R1 s] [H2 : EncL QS R2 s2] : LP T (n + 1) 34 4 (frm [(0, .imm 4 R1), (1, .imm 4 R2), (12, .i .i64 a), (13, .i .i64 a2)]) [] =
  Jd (run (VW s s2 a) a2) (fun (zr : Bool) => (XE.ret, frm [(4, .b zr)], [])) (fun (zr : Unit) => (XE.exit 0, frm [], [])) := by
 rcases H1, H2 with ⟨⟨rfl⟩, ⟨rfl⟩⟩
 rw [Qy]
 simp -dsimp only [↓evA, evB, Qo, Tryz.func34, Tryz.f34, QMD, QzP, TP, TZ, Nat.reduceAdd, Nat.reduceMul, Nat.reduceBEq, Nat.reduceLeDiff, Nat.reduceLT]
 apply Qs a2
 intro a2
 simp -dsimp +contextual only [↓evA, eZ, Nat.reduceAdd, Nat.reduceMul, Nat.reduceBEq, Nat.reduceLeDiff, Nat.reduceLT]
 try simp only [VW, eY]
 all_goals rfl
theorem QgA {R1 s R2 s2} [H1 : EncL QS R1 s] [H2 : EncL QS R2 s2] : CP T (n + 2) 34 [.imm 4 R1, .imm 4 R2] = (Zo s s2).map fun r => .b r := by
 rcases H1, H2 with ⟨⟨rfl⟩, ⟨rfl⟩⟩
 rw [Qf]
 simp -dsimp +contextual only [↓evA, eZ, Nat.reduceAdd, Nat.reduceMul, Nat.reduceBEq, Nat.reduceLeDiff, Nat.reduceLT, Tryz.func34, Tryz.f34, QMD, QzP, Qfd]
 try simp only [Zo, eY]
 all_goals rfl
theorem QfA (a a2) {R1 s R2 s2} [H1 : EncL Vv R1 s] [H2 : EncL Vv R2 s2] : LP T (n + 1) 35 4 (frm [(0, .imm 5 R1), (1, .imm 5 R2), (12, .i .i64 a), (13, .i .i64 a2)]) [] =
  Jd (run (V8 s s2 a) a2) (fun (zr : Bool) => (XE.ret, frm [(4, .b zr)], [])) (fun (zr : Unit) => (XE.exit 0, frm [], [])) := by
 rcases H1, H2 with ⟨⟨rfl⟩, ⟨rfl⟩⟩
 rw [Qy]
 simp -dsimp only [↓evA, evB, Qo, Tryz.func35, Tryz.f35, QP4, Qxp, TP, TZ, Nat.reduceAdd, Nat.reduceMul, Nat.reduceBEq, Nat.reduceLeDiff, Nat.reduceLT]
 apply Qs a2
 intro a2
 simp -dsimp +contextual only [↓evA, eZ, Nat.reduceAdd, Nat.reduceMul, Nat.reduceBEq, Nat.reduceLeDiff, Nat.reduceLT]
 try simp only [V8, eY]
 all_goals rfl
theorem QhA {R1 s R2 s2} [H1 : EncL Vv R1 s] [H2 : EncL Vv R2 s2] : CP T (n + 2) 35 [.imm 5 R1, .imm 5 R2] = (ZN s s2).map fun r => .b r := by
 rcases H1, H2 with ⟨⟨rfl⟩, ⟨rfl⟩⟩
 rw [Qf]
 simp -dsimp +contextual only [↓evA, eZ, Nat.reduceAdd, Nat.reduceMul, Nat.reduceBEq, Nat.reduceLeDiff, Nat.reduceLT, Tryz.func35, Tryz.f35, QP4, Qxp, QfA]
 try simp only [ZN, eY]
 all_goals rfl
theorem Qfx (a a2) {R1 s R2 s2} [H1 : EncL Vk R1 s] [H2 : EncL Vk R2 s2] : LP T (n + 1) 36 4 (frm [(0, .imm 4 R1), (1, .imm 4 R2), (12, .i .i64 a), (13, .i .i64 a2)]) [] =
  Jd (run (VY s s2 a) a2) (fun (zr : Bool) => (XE.ret, frm [(4, .b zr)], [])) (fun (zr : Unit) => (XE.exit 0, frm [], [])) := by
 rcases H1, H2 with ⟨⟨rfl⟩, ⟨rfl⟩⟩
 rw [Qy]
 simp -dsimp only [↓evA, evB, Qo, Tryz.func36, Tryz.f36, QI5, QyH, TP, TZ, Nat.reduceAdd, Nat.reduceMul, Nat.reduceBEq, Nat.reduceLeDiff, Nat.reduceLT]
 apply Qs a2
 intro a2
 simp -dsimp +contextual only [↓evA, eZ, Nat.reduceAdd, Nat.reduceMul, Nat.reduceBEq, Nat.reduceLeDiff, Nat.reduceLT]
 try simp only [VY, eY]
 all_goals rfl
theorem Qgv {R1 s R2 s2} [H1 : EncL Vk R1 s] [H2 : EncL Vk R2 s2] : CP T (n + 2) 36 [.imm 4 R1, .imm 4 R2] = (Zk s s2).map fun r => .b r := by
 rcases H1, H2 with ⟨⟨rfl⟩, ⟨rfl⟩⟩
 rw [Qf]
 simp -dsimp +contextual only [↓evA, eZ, Nat.reduceAdd, Nat.reduceMul, Nat.reduceBEq, Nat.reduceLeDiff, Nat.reduceLT, Tryz.func36, Tryz.f36, QI5, QyH, Qfx]
 try simp only [Zk, eY]
 all_goals rfl
theorem Qij {R1 a R2 a2} [H1 : EncR QV R1 a] [H2 : EncR QV R2 a2] : CP T (n + 7) 9 [.agg R1, .agg R2] = (Ze a a2).map fun r => .b r := by
 rcases H1, H2 with ⟨⟨rfl⟩, ⟨rfl⟩⟩
 rw [Qf]
 simp -dsimp +contextual (maxSteps := 100000000) only [↓evA, eZ, Nat.reduceAdd, Nat.reduceMul, Nat.reduceBEq, Nat.reduceLeDiff, Nat.reduceLT, Tryz.func9, Tryz.f9, Aa9, An9, QhJ, QhL, Qhx, QgI, QgA, QhA, Qgv]
 try simp only [Ze, eY]
 all_goals rfl
theorem Qge (k a a3 a4) {R1 a2} [H1 : EncL QfW R1 a2] : LP T (n + 1) 10 3 (frm [(1, .i .i64 k), (5, .i .i64 a), (8, .imm 14 R1), (9, .i .i64 a3), (10, .i .i64 a4)]) [] =
  (run (Xb k a2 a3) (a, a4)).map (fun (zr : Int) => (XE.exit 0, frm [(5, .i .i64 zr)], [])) := by
 obtain ⟨rfl⟩ := H1
 rw [Qy]
 simp -dsimp only [↓evA, evB, Qo, Tryz.func10, Tryz.f10, QIW, QxA, TP, TZ, Nat.reduceAdd, Nat.reduceMul, Nat.reduceBEq, Nat.reduceLeDiff, Nat.reduceLT]
 apply VS a a4
 intro a a4
 simp -dsimp +contextual only [↓evA, eZ, Nat.reduceAdd, Nat.reduceMul, Nat.reduceBEq, Nat.reduceLeDiff, Nat.reduceLT]
 try simp only [Xb, eY]
 all_goals rfl
theorem QiD (k) {R1 l} [H1 : EncL QfW R1 l] : CP T (n + 2) 10 [.imm 14 R1, .i .i64 k] = (Zg l k).map fun r => .i .i64 r := by
 obtain ⟨rfl⟩ := H1
 rw [Qf]
 simp -dsimp +contextual only [↓evA, eZ, Nat.reduceAdd, Nat.reduceMul, Nat.reduceBEq, Nat.reduceLeDiff, Nat.reduceLT, Tryz.func10, Tryz.f10, QIW, QxA, Qge]
 try simp only [Zg, eY]
 all_goals rfl
theorem QkK (i) {R1 c R2 l} [H1 : EncR QK R1 c] [H2 : EncL QE R2 l] : LP T (n + 5) 77 3 (frm [(0, .ptr 0 0 0), (3, .sl 1), (4, .i .i64 i)]) [some (Ent.box R1), some (Ent.lst 8 R2)] =
  (run Qaq (c, l, i)).map (fun (zr : l1Cur × (List Find)) => (XE.exit 0, frm [(0, .ptr 0 0 0), (3, .sl 1)], [some (Ent.box (QK zr.1)), some (Ent.lst 8 (zr.2.map QE))])) := by
 rcases H1, H2 with ⟨⟨rfl⟩, ⟨rfl⟩⟩
 rw [Qy]
 simp -dsimp only [↓evA, evB, Qo, Tryz.func77, Tryz.f77, QH7, Qx2, TP, TZ, Nat.reduceAdd, Nat.reduceMul, Nat.reduceBEq, Nat.reduceLeDiff, Nat.reduceLT]
 apply Qcp c l i
 intro c l i
 simp -dsimp +contextual only [↓evA, eZ, Nat.reduceAdd, Nat.reduceMul, Nat.reduceBEq, Nat.reduceLeDiff, Nat.reduceLT, srt, Qz, Qe9]
 try simp only [Qaq, eY]
 all_goals rfl
theorem QnD {R1 c} [H1 : EncR QK R1 c] : CA T (n + 6) 77 [some (Ent.box R1)] [.ptr 0 0 0] = (QdR c).map fun r => (.sl 1, [some (Ent.box (QK r.1)), some (Ent.lst 8 (r.2.map QE))]) := by
 obtain ⟨rfl⟩ := H1
 rw [Qa2]
 simp -dsimp +contextual (maxSteps := 100000000) only [↓evA, eZ, Nat.reduceAdd, Nat.reduceMul, Nat.reduceBEq, Nat.reduceLeDiff, Nat.reduceLT, Tryz.func77, Tryz.f77, QH7, Qx2, srt, QkK]
 try simp only [QdR, eY]
 all_goals rfl
theorem QiK {R1 c} [H1 : EncR QK R1 c] : CA T (n + 4) 80 [some (Ent.box R1)] [.ptr 0 0 0] = (Qdp c).map fun r => (.i .i64 r.2, [some (Ent.box (QK r.1))]) := by
 obtain ⟨rfl⟩ := H1
 rw [Qa2]
 simp -dsimp +contextual (maxSteps := 100000000) only [↓evA, eZ, Nat.reduceAdd, Nat.reduceMul, Nat.reduceBEq, Nat.reduceLeDiff, Nat.reduceLT, Tryz.func80, Tryz.f80, QTI, QAD, srt, Xx]
 try simp only [Qdp, eY]
 all_goals rfl
theorem QpN {R1 c} [H1 : EncR QK R1 c] : CA T (n + 5) 78 [some (Ent.box R1)] [.ptr 0 0 0] = (Qew c).map fun r => (.agg (Qbm r.2), [some (Ent.box (QK r.1))]) := by
 obtain ⟨rfl⟩ := H1
 rw [Qa2]
 simp -dsimp +contextual (maxSteps := 100000000) only [↓evA, eZ, Nat.reduceAdd, Nat.reduceMul, Nat.reduceBEq, Nat.reduceLeDiff, Nat.reduceLT, Tryz.func78, Tryz.f78, QQ9, QAc, srt, Qz, QhV, Xx, QiK]
 try simp only [Qew, eY]
 all_goals rfl
theorem QpI {R1 c} [H1 : EncR QK R1 c] : CA T (n + 7) 37 [some (Ent.box R1)] [.ptr 0 0 0] = (Qeb c).map fun r => (.sl 1, [some (Ent.box (QK r.1)), some (Ent.lst 8 (r.2.map QE))]) := by
 obtain ⟨rfl⟩ := H1
 rw [Qa2]
 simp -dsimp +contextual (maxSteps := 100000000) only [↓evA, eZ, Nat.reduceAdd, Nat.reduceMul, Nat.reduceBEq, Nat.reduceLeDiff, Nat.reduceLT, Tryz.func37, Tryz.f37, QRH, QBL, srt, QnD, Qz, QpN, Xx, QiK]
 try simp only [Qeb, eY]
 all_goals rfl
theorem QiQ (k) {R1 l R2 m} [H1 : EncL Vp R1 l] [H2 : EncR Vp R2 m] : LP T (n + 1) 123 2 (frm [(0, .imm 2 R1), (3, .ptr 0 0 0), (6, .i .i64 k)]) [some (Ent.box R2)] =
  (run (JF l m) k).map (fun (zr : Int) => (XE.exit 0, frm [(0, .imm 2 (l.map Vp)), (3, .ptr 0 0 0), (6, .i .i64 zr)], [some (Ent.box (Vp m))])) := by
 rcases H1, H2 with ⟨⟨rfl⟩, ⟨rfl⟩⟩
 rw [Qy]
 simp -dsimp only [↓evA, evB, Qo, Tryz.func123, Tryz.f123, QEc, QrO, TP, TZ, Nat.reduceAdd, Nat.reduceMul, Nat.reduceBEq, Nat.reduceLeDiff, Nat.reduceLT]
 apply Qs k
 intro k
 simp -dsimp +contextual only [↓evA, eZ, Nat.reduceAdd, Nat.reduceMul, Nat.reduceBEq, Nat.reduceLeDiff, Nat.reduceLT]
 try simp only [JF, eY]
 try simp only [List.contains_nil, Bool.not_false, Bool.and_true, VK, List.length_append, List.length_cons, List.length_nil, Nat.zero_add, VL, V0]
 all_goals rfl
theorem Qng {R1 l R2 m} [H1 : EncL Vp R1 l] [H2 : EncR Vp R2 m] : CP T (n + 4) 123 [.imm 2 R1, .agg R2] = (QcS l m).map fun r => .tup [.own 2 (r.1.map Vp), .b r.2] := by
 rcases H1, H2 with ⟨⟨rfl⟩, ⟨rfl⟩⟩
 rw [Qf]
 simp -dsimp +contextual only [↓evA, eZ, Nat.reduceAdd, Nat.reduceMul, Nat.reduceBEq, Nat.reduceLeDiff, Nat.reduceLT, Tryz.func123, Tryz.f123, QEc, QrO, QcA, QiQ]
 try simp only [QcS, eY]
 try simp only [List.contains_nil, Bool.not_false, Bool.and_true, VK, List.length_append, List.length_cons, List.length_nil, Nat.zero_add, VL, V0]
 all_goals first | rfl | (simp +contextual only [evN] <;> rfl)
theorem Qjw (i) {R1 c R2 l} [H1 : EncR QK R1 c] [H2 : EncL Vp R2 l] : LP T (n + 5) 81 3 (frm [(0, .ptr 0 0 0), (3, .sl 1), (4, .i .i64 i)]) [some (Ent.box R1), some (Ent.lst 2 R2)] =
  (run Zz (c, l, i)).map (fun (zr : l1Cur × (List Mark)) => (XE.exit 0, frm [(0, .ptr 0 0 0), (3, .sl 1)], [some (Ent.box (QK zr.1)), some (Ent.lst 2 (zr.2.map Vp))])) := by
 rcases H1, H2 with ⟨⟨rfl⟩, ⟨rfl⟩⟩
 rw [Qy]
 simp -dsimp only [↓evA, evB, Qo, Tryz.func81, Tryz.f81, QJf, Qwr, TP, TZ, Nat.reduceAdd, Nat.reduceMul, Nat.reduceBEq, Nat.reduceLeDiff, Nat.reduceLT]
 apply Qcp c l i
 intro c l i
 simp -dsimp +contextual only [↓evA, eZ, Nat.reduceAdd, Nat.reduceMul, Nat.reduceBEq, Nat.reduceLeDiff, Nat.reduceLT, srt, Qz, Qng]
 try simp only [Zz, eY]
 all_goals rfl
theorem Qgs {R1 c} [H1 : EncR QK R1 c] : CA T (n + 6) 81 [some (Ent.box R1)] [.ptr 0 0 0] = (QbP c).map fun r => (.sl 1, [some (Ent.box (QK r.1)), some (Ent.lst 2 (r.2.map Vp))]) := by
 obtain ⟨rfl⟩ := H1
 rw [Qa2]
 simp -dsimp +contextual (maxSteps := 100000000) only [↓evA, eZ, Nat.reduceAdd, Nat.reduceMul, Nat.reduceBEq, Nat.reduceLeDiff, Nat.reduceLT, Tryz.func81, Tryz.f81, QJf, Qwr, srt, Qz, Qjw]
 try simp only [QbP, eY]
 all_goals rfl
theorem QnG {R1 c} [H1 : EncR QK R1 c] : CA T (n + 7) 38 [some (Ent.box R1)] [.ptr 0 0 0] = (QdG c).map fun r => (.sl 1, [some (Ent.box (QK r.1)), some (Ent.lst 2 (r.2.map Vp))]) := by
 obtain ⟨rfl⟩ := H1
 rw [Qa2]
 simp -dsimp +contextual (maxSteps := 100000000) only [↓evA, eZ, Nat.reduceAdd, Nat.reduceMul, Nat.reduceBEq, Nat.reduceLeDiff, Nat.reduceLT, Tryz.func38, Tryz.f38, QRp, QBZ, srt, Qgs, Qz, Xx]
 try simp only [QdG, eY]
 all_goals rfl
theorem Qim {R1 c} [H1 : EncL Qdt R1 c] : CP T (n + 8) 11 [.imm 1 R1] = (Qan c).map fun r => .tup [.own 8 (r.1.map QE), .own 2 (r.2.map Vp)] := by
 obtain ⟨rfl⟩ := H1
 rw [Qf]
 simp -dsimp +contextual only [↓evA, eZ, Nat.reduceAdd, Nat.reduceMul, Nat.reduceBEq, Nat.reduceLeDiff, Nat.reduceLT, Tryz.func11, Tryz.f11, QUv, QBW, srt, QfN, QpI, QnG]
 try simp only [Qan, eY]
 all_goals first | rfl | (simp +contextual only [evN] <;> rfl)
theorem QiT (a2 a3) {R1 m R2 o R3 a} [H1 : EncL Vp R1 m] [H2 : EncL Qcx R2 o] [H3 : EncL QE R3 a] : LP T (n + 2) 12 3 (frm [(1, .imm 2 R1), (5, .sl 0), (9, .imm 8 R3), (10, .i .i64 a2), (11, .i .i64 a3)]) [some (Ent.lst 14 R2)] =
  (run (JM m a a2) (o, a3)).map (fun (zr : (List Event)) => (XE.exit 0, frm [(5, .sl 0)], [some (Ent.lst 14 (zr.map Qcx))])) := by
 rcases H1, H2, H3 with ⟨⟨rfl⟩, ⟨rfl⟩, ⟨rfl⟩⟩
 rw [Qy]
 simp -dsimp only [↓evA, evB, Qo, Tryz.func12, Tryz.f12, QMg, QxN, TP, TZ, Nat.reduceAdd, Nat.reduceMul, Nat.reduceBEq, Nat.reduceLeDiff, Nat.reduceLT]
 apply VS o a3
 intro o a3
 simp -dsimp +contextual only [↓evA, eZ, Nat.reduceAdd, Nat.reduceMul, Nat.reduceBEq, Nat.reduceLeDiff, Nat.reduceLT, Qac]
 try simp only [JM, eY]
 all_goals rfl
theorem Qni {R1 l R2 m} [H1 : EncL QE R1 l] [H2 : EncL Vp R2 m] : CP T (n + 3) 12 [.imm 8 R1, .imm 2 R2] = (Qda l m).map fun r => .own 14 (r.map Qcx) := by
 rcases H1, H2 with ⟨⟨rfl⟩, ⟨rfl⟩⟩
 rw [Qf]
 simp -dsimp +contextual only [↓evA, eZ, Nat.reduceAdd, Nat.reduceMul, Nat.reduceBEq, Nat.reduceLeDiff, Nat.reduceLT, Tryz.func12, Tryz.f12, QMg, QxN, QiT]
 try simp only [Qda, eY]
 all_goals first | rfl | (simp +contextual only [evN] <;> rfl)
theorem QnR (a) {R1 c} [H1 : EncR QK R1 c] : CA T (n + 7) 126 [some (Ent.box R1)] [.ptr 0 0 0, .i .i64 a] = (QdI c a).map fun r => (.agg [.i .i64 r.2.Thing, .sl 1, .i .i64 r.2.Salt], [some (Ent.box (QK r.1)), some (Ent.lst 2 (r.2.Marks.map Vp))]) := by
 obtain ⟨rfl⟩ := H1
 rw [Qa2]
 simp -dsimp +contextual (maxSteps := 100000000) only [↓evA, eZ, Nat.reduceAdd, Nat.reduceMul, Nat.reduceBEq, Nat.reduceLeDiff, Nat.reduceLT, Tryz.func126, Tryz.f126, QI7, QtU, srt, Qgs, Qz]
 try simp only [QdI, eY]
 all_goals rfl
theorem QjQ (k) {R1 l R2 f} [H1 : EncL QE R1 l] [H2 : EncR QE R2 f] : LP T (n + 1) 179 2 (frm [(0, .imm 8 R1), (3, .ptr 0 0 0), (6, .i .i64 k)]) [some (Ent.box R2)] =
  (run (ZF l f) k).map (fun (zr : Int) => (XE.exit 0, frm [(0, .imm 8 (l.map QE)), (3, .ptr 0 0 0), (6, .i .i64 zr)], [some (Ent.box (QE f))])) := by
 rcases H1, H2 with ⟨⟨rfl⟩, ⟨rfl⟩⟩
 rw [Qy]
 simp -dsimp only [↓evA, evB, Qo, Tryz.func179, Tryz.f179, QD2, QqE, TP, TZ, Nat.reduceAdd, Nat.reduceMul, Nat.reduceBEq, Nat.reduceLeDiff, Nat.reduceLT]
 apply Qs k
 intro k
 simp -dsimp +contextual only [↓evA, eZ, Nat.reduceAdd, Nat.reduceMul, Nat.reduceBEq, Nat.reduceLeDiff, Nat.reduceLT]
 try simp only [ZF, eY]
 try simp only [List.contains_nil, Bool.not_false, Bool.and_true, VK, List.length_append, List.length_cons, List.length_nil, Nat.zero_add, VL, V0]
 all_goals rfl
theorem Qmy {R1 l R2 f} [H1 : EncL QE R1 l] [H2 : EncR QE R2 f] : CP T (n + 6) 179 [.imm 8 R1, .agg R2] = (QbL l f).map fun r => .tup [.own 8 (r.1.map QE), .b r.2] := by
 rcases H1, H2 with ⟨⟨rfl⟩, ⟨rfl⟩⟩
 rw [Qf]
 simp -dsimp +contextual only [↓evA, eZ, Nat.reduceAdd, Nat.reduceMul, Nat.reduceBEq, Nat.reduceLeDiff, Nat.reduceLT, Tryz.func179, Tryz.f179, QD2, QqE, Qf1, QjQ]
 try simp only [QbL, eY]
 try simp only [List.contains_nil, Bool.not_false, Bool.and_true, VK, List.length_append, List.length_cons, List.length_nil, Nat.zero_add, VL, V0]
 all_goals first | rfl | (simp +contextual only [evN] <;> rfl)
theorem QhM (k) {R1 l R2 a} [H1 : EncL Q4 R1 l] [H2 : EncR Q4 R2 a] : LP T (n + 1) 180 2 (frm [(0, .imm 3 R1), (3, .ptr 0 0 0), (6, .i .i64 k)]) [some (Ent.box R2)] =
  (run (Jz l a) k).map (fun (zr : Int) => (XE.exit 0, frm [(0, .imm 3 (l.map Q4)), (3, .ptr 0 0 0), (6, .i .i64 zr)], [some (Ent.box (Q4 a))])) := by
 rcases H1, H2 with ⟨⟨rfl⟩, ⟨rfl⟩⟩
 rw [Qy]
 simp -dsimp only [↓evA, evB, Qo, Tryz.func180, Tryz.f180, QDv, QqF, TP, TZ, Nat.reduceAdd, Nat.reduceMul, Nat.reduceBEq, Nat.reduceLeDiff, Nat.reduceLT]
 apply Qs k
 intro k
 simp -dsimp +contextual only [↓evA, eZ, Nat.reduceAdd, Nat.reduceMul, Nat.reduceBEq, Nat.reduceLeDiff, Nat.reduceLT]
 try simp only [Jz, eY]
 try simp only [List.contains_nil, Bool.not_false, Bool.and_true, VK, List.length_append, List.length_cons, List.length_nil, Nat.zero_add, VL, V0]
 all_goals rfl
theorem QkI {R1 l R2 a} [H1 : EncL Q4 R1 l] [H2 : EncR Q4 R2 a] : CP T (n + 6) 180 [.imm 3 R1, .agg R2] = (Qav l a).map fun r => .tup [.own 3 (r.1.map QB), .b r.2] := by
 rcases H1, H2 with ⟨⟨rfl⟩, ⟨rfl⟩⟩
 rw [Qf]
 simp -dsimp +contextual only [↓evA, eZ, Nat.reduceAdd, Nat.reduceMul, Nat.reduceBEq, Nat.reduceLeDiff, Nat.reduceLT, Tryz.func180, Tryz.f180, QDv, QqF, QgO, QeM, QhM]
 try simp only [Qav, eY]
 try simp only [List.contains_nil, Bool.not_false, Bool.and_true, VK, List.length_append, List.length_cons, List.length_nil, Nat.zero_add, VL, V0]
 all_goals first | rfl | (simp +contextual only [evN] <;> rfl)
theorem QfI (s k i) {R1 l} [H1 : EncL QX R1 l] : LP T (n + 1) 225 3 (frm [(0, .imm 3 R1), (1, .i .i64 s), (5, .i .i64 k), (6, .i .i64 i)]) [] =
  (run (Vb l s) (k, i)).map (fun (zr : Int) => (XE.exit 0, frm [(0, .imm 3 (l.map QX)), (5, .i .i64 zr)], [])) := by
 obtain ⟨rfl⟩ := H1
 rw [Qy]
 simp -dsimp only [↓evA, evB, Qo, Tryz.func225, Tryz.f225, QDy, QpT, TP, TZ, Nat.reduceAdd, Nat.reduceMul, Nat.reduceBEq, Nat.reduceLeDiff, Nat.reduceLT]
 apply VS k i
 intro k i
 simp -dsimp +contextual only [↓evA, eZ, Nat.reduceAdd, Nat.reduceMul, Nat.reduceBEq, Nat.reduceLeDiff, Nat.reduceLT]
 try simp only [Vb, eY]
 all_goals rfl
theorem Qhv (s) {R1 l} [H1 : EncL QX R1 l] : CP T (n + 2) 225 [.imm 3 R1, .i .i64 s] = (ZR l s).map fun r => .i .i64 r := by
 obtain ⟨rfl⟩ := H1
 rw [Qf]
 simp -dsimp +contextual only [↓evA, eZ, Nat.reduceAdd, Nat.reduceMul, Nat.reduceBEq, Nat.reduceLeDiff, Nat.reduceLT, Tryz.func225, Tryz.f225, QDy, QpT, QfI]
 try simp only [ZR, eY]
 all_goals rfl
theorem Qj1 (s i) {R1 a R2 o} [H1 : EncR Qbm R1 a] [H2 : EncL QX R2 o] : LP T (n + 1) 181 6 (frm [(3, .ptr 0 0 0), (6, .sl 1), (7, .i .i64 s), (8, .i .i64 i)]) [some (Ent.box R1), some (Ent.lst 3 R2)] =
  (run (Xt a s) (o, i)).map (fun (zr : (List Slot)) => (XE.exit 0, frm [(6, .sl 0)], [some (Ent.lst 3 (zr.map QX))])) := by
 rcases H1, H2 with ⟨⟨rfl⟩, ⟨rfl⟩⟩
 rw [Qy]
 simp -dsimp only [↓evA, evB, Qo, Tryz.func181, Tryz.f181, QDV, Qp6, TP, TZ, Nat.reduceAdd, Nat.reduceMul, Nat.reduceBEq, Nat.reduceLeDiff, Nat.reduceLT]
 apply VS o i
 intro o i
 simp -dsimp +contextual only [↓evA, eZ, Nat.reduceAdd, Nat.reduceMul, Nat.reduceBEq, Nat.reduceLeDiff, Nat.reduceLT]
 try simp only [Xt, eY]
 all_goals rfl
theorem Qnb {R1 l R2 a} [H1 : EncL QX R1 l] [H2 : EncR Qbm R2 a] : CP T (n + 4) 181 [.imm 3 R1, .agg R2] = (Qb1 l a).map fun r => .tup [.own 3 (r.1.map QX), .b r.2] := by
 rcases H1, H2 with ⟨⟨rfl⟩, ⟨rfl⟩⟩
 rw [Qf]
 simp -dsimp +contextual only [↓evA, eZ, Nat.reduceAdd, Nat.reduceMul, Nat.reduceBEq, Nat.reduceLeDiff, Nat.reduceLT, Tryz.func181, Tryz.f181, QDV, Qp6, Qhv, QdW, Qem, Qdx, Qj1]
 try simp only [Qb1, eY]
 all_goals first | rfl | (simp +contextual only [evN] <;> rfl)
theorem Qgu {R1 l R2 a} [H1 : EncL Vv R1 l] [H2 : EncR Vv R2 a] : CP T (n + 8) 182 [.imm 5 R1, .agg R2] = (Qca l a).map fun r => .tup [.own 5 (r.1.map Vv), .b r.2] := by
 rcases H1, H2 with ⟨⟨rfl⟩, ⟨rfl⟩⟩
 rw [Qf]
 simp -dsimp +contextual only [↓evA, eZ, Nat.reduceAdd, Nat.reduceMul, Nat.reduceBEq, Nat.reduceLeDiff, Nat.reduceLT, Tryz.func182, Tryz.f182, QKE, QuI, QfZ, Qeu]
 try simp only [Qca, eY]
 try simp only [List.contains_nil, Bool.not_false, Bool.and_true, VK, List.length_append, List.length_cons, List.length_nil, Nat.zero_add, VL, V0]
 all_goals first | rfl | (simp +contextual only [evN] <;> rfl)
theorem QbI (oxNo oxNow o2) {R1 a R2 oxFinds R3 oxSecrets R4 oxSlots R5 oxClaims R6 oxTrials R7 oxChain R8 oxBook} [H1 : EncR QV R1 a] [H2 : EncL QE R2 oxFinds] [H3 : EncL QB R3 oxSecrets] [H4 : EncL QX R4 oxSlots] [H5 : EncL Qj R5 oxClaims] [H6 : EncL QS R6 oxTrials] [H7 : EncL Vv R7 oxChain] [H8 : EncL Vk R8 oxBook] : CM T (n + 12) 128 [some (Ent.lst 8 R2), some (Ent.lst 3 R3), some (Ent.lst 3 R4), some (Ent.lst 5 R5), some (Ent.lst 4 R6), some (Ent.lst 5 R7), some (Ent.lst 4 R8)] [.agg R1, .agg [.i .i64 oxNo, .sl 0, .sl 1, .sl 2, .sl 3, .sl 4, .sl 5, .sl 6, .i .i64 oxNow], .b o2] = (Qq a (⟨oxNo, oxFinds, oxSecrets, oxSlots, oxClaims, oxTrials, oxChain, oxBook, oxNow⟩ : House) o2).map fun r => .tup [.agg (VU r.1), .b r.2] := by
 rcases H1, H2, H3, H4, H5, H6, H7, H8 with ⟨⟨rfl⟩, ⟨rfl⟩, ⟨rfl⟩, ⟨rfl⟩, ⟨rfl⟩, ⟨rfl⟩, ⟨rfl⟩, ⟨rfl⟩⟩
 rw [Qoi]
 simp -dsimp +contextual (maxSteps := 100000000) only [↓evA, eZ, Nat.reduceAdd, Nat.reduceMul, Nat.reduceBEq, Nat.reduceLeDiff, Nat.reduceLT, Tryz.func128, Tryz.f128, QPm, Qu2, Qdg, Jo]
 try simp only [Qq, eY]
 all_goals rfl
theorem Qln (a4) {R1 a R2 a2 R3 a3} [H1 : EncR QV R1 a] [H2 : EncR QE R2 a2] [H3 : EncL Vp R3 a3] : CP T (n + 13) 125 [.agg R1, .agg R2, .imm 2 R3, .i .i64 a4] = (J4 a a2 a3 a4).map fun r => .tup [.agg (VU r.1), .b r.2] := by
 rcases H1, H2, H3 with ⟨⟨rfl⟩, ⟨rfl⟩, ⟨rfl⟩⟩
 rw [Qf]
 simp -dsimp +contextual (maxSteps := 100000000) only [↓evA, eZ, Nat.reduceAdd, Nat.reduceMul, Nat.reduceBEq, Nat.reduceLeDiff, Nat.reduceLT, Tryz.func125, Tryz.f125, QKX, Qu3, srt, Jo, Qmy, QkI, Qnb, Qgu, QbI]
 try simp only [J4, eY]
 all_goals rfl
theorem QiF (axNo axNow i) {R1 c R2 axFinds R3 axSecrets R4 axSlots R5 axClaims R6 axTrials R7 axChain R8 axBook} [H1 : EncR QK R1 c] [H2 : EncL QE R2 axFinds] [H3 : EncL QB R3 axSecrets] [H4 : EncL QX R4 axSlots] [H5 : EncL Qj R5 axClaims] [H6 : EncL QS R6 axTrials] [H7 : EncL Vv R7 axChain] [H8 : EncL Vk R8 axBook] : CA T (n + 14) 82 [some (Ent.box R1), some (Ent.lst 8 R2), some (Ent.lst 3 R3), some (Ent.lst 3 R4), some (Ent.lst 5 R5), some (Ent.lst 4 R6), some (Ent.lst 5 R7), some (Ent.lst 4 R8)] [.ptr 0 0 0, .agg [.i .i64 axNo, .sl 1, .sl 2, .sl 3, .sl 4, .sl 5, .sl 6, .sl 7, .i .i64 axNow], .i .i64 i] = (Qaj c (⟨axNo, axFinds, axSecrets, axSlots, axClaims, axTrials, axChain, axBook, axNow⟩ : House) i).map fun r => (.agg [.i .i64 r.2.No, .sl 8, .sl 9, .sl 10, .sl 11, .sl 12, .sl 13, .sl 14, .i .i64 r.2.Now], [some (Ent.box (QK r.1)), some (Ent.lst 8 (axFinds.map QE)), some (Ent.lst 3 (axSecrets.map QB)), some (Ent.lst 3 (axSlots.map QX)), some (Ent.lst 5 (axClaims.map Qj)), some (Ent.lst 4 (axTrials.map QS)), some (Ent.lst 5 (axChain.map Vv)), some (Ent.lst 4 (axBook.map Vk)), some (Ent.lst 8 (r.2.Finds.map QE)), some (Ent.lst 3 (r.2.Secrets.map QB)), some (Ent.lst 3 (r.2.Slots.map QX)), some (Ent.lst 5 (r.2.Claims.map Qj)), some (Ent.lst 4 (r.2.Trials.map QS)), some (Ent.lst 5 (r.2.Chain.map Vv)), some (Ent.lst 4 (r.2.Book.map Vk))]) := by
 rcases H1, H2, H3, H4, H5, H6, H7, H8 with ⟨⟨rfl⟩, ⟨rfl⟩, ⟨rfl⟩, ⟨rfl⟩, ⟨rfl⟩, ⟨rfl⟩, ⟨rfl⟩, ⟨rfl⟩⟩
 rw [Qa2]
 simp -dsimp +contextual (maxSteps := 100000000) only [↓evA, eZ, Nat.reduceAdd, Nat.reduceMul, Nat.reduceBEq, Nat.reduceLeDiff, Nat.reduceLT, Tryz.func82, Tryz.f82, QTy, QBQ, srt, Qe9, Qz, QiG, Xx, QnR, Qln]
 try simp only [Qaj, eY]
 all_goals rfl
theorem Qia (a2 a3 a4) {R1 l R2 a} [H1 : EncL Qj R1 l] [H2 : EncR Qj R2 a] : LP T (n + 1) 127 4 (frm [(0, .imm 5 R1), (3, .ptr 0 0 0), (6, .i .i64 a2), (7, .b a3), (8, .i .i64 a4)]) [some (Ent.box R2)] =
  (run (X7 l a) (a2, a3, a4)).map (fun (zr : Int × Bool) => (XE.exit 0, frm [(0, .imm 5 (l.map Qj)), (3, .ptr 0 0 0), (6, .i .i64 zr.1), (7, .b zr.2)], [some (Ent.box (Qj a))])) := by
 rcases H1, H2 with ⟨⟨rfl⟩, ⟨rfl⟩⟩
 rw [Qy]
 simp -dsimp only [↓evA, evB, Qo, Tryz.func127, Tryz.f127, QDW, Qqv, TP, TZ, Nat.reduceAdd, Nat.reduceMul, Nat.reduceBEq, Nat.reduceLeDiff, Nat.reduceLT]
 apply Qcp a2 a3 a4
 intro a2 a3 a4
 simp -dsimp +contextual only [↓evA, eZ, Nat.reduceAdd, Nat.reduceMul, Nat.reduceBEq, Nat.reduceLeDiff, Nat.reduceLT]
 try simp only [X7, eY]
 try simp only [List.contains_nil, Bool.not_false, Bool.and_true, VK, List.length_append, List.length_cons, List.length_nil, Nat.zero_add, VL, V0]
 all_goals rfl
theorem Qlx {R1 l R2 a} [H1 : EncL Qj R1 l] [H2 : EncR Qj R2 a] : CP T (n + 4) 127 [.imm 5 R1, .agg R2] = (Qbg l a).map fun r => .tup [.own 5 (r.1.map Qj), .b r.2] := by
 rcases H1, H2 with ⟨⟨rfl⟩, ⟨rfl⟩⟩
 rw [Qf]
 simp -dsimp +contextual only [↓evA, eZ, Nat.reduceAdd, Nat.reduceMul, Nat.reduceBEq, Nat.reduceLeDiff, Nat.reduceLT, Tryz.func127, Tryz.f127, QDW, Qqv, Qdu, Qia]
 try simp only [Qbg, eY]
 try simp only [List.contains_nil, Bool.not_false, Bool.and_true, VK, List.length_append, List.length_cons, List.length_nil, Nat.zero_add, VL, V0]
 all_goals first | rfl | (simp +contextual only [evN] <;> rfl)
theorem Qhu (a a2 a4xNo a4xNow a5 a6) {R1 a3 R2 a4xFinds R3 a4xSecrets R4 a4xSlots R5 a4xClaims R6 a4xTrials R7 a4xChain R8 a4xBook} [H1 : EncR QV R1 a3] [H2 : EncL QE R2 a4xFinds] [H3 : EncL QB R3 a4xSecrets] [H4 : EncL QX R4 a4xSlots] [H5 : EncL Qj R5 a4xClaims] [H6 : EncL QS R6 a4xTrials] [H7 : EncL Vv R7 a4xChain] [H8 : EncL Vk R8 a4xBook] : LP T (n + 1) 83 5 (frm [(1, .i .i64 a), (3, .i .i64 a2), (4, .ptr 0 0 0), (8, .ptr 1 0 0), (10, .ptr 2 0 0), (12, .b a5), (13, .i .i64 a6)]) [some (Ent.box R1), some (Ent.box [.i .i64 0, .nil, .nil, .nil, .nil, .nil, .nil, .nil, .i .i64 0]), some (Ent.box [.i .i64 a4xNo, .sl 3, .sl 4, .sl 5, .sl 6, .sl 7, .sl 8, .sl 9, .i .i64 a4xNow]), some (Ent.lst 8 R2), some (Ent.lst 3 R3), some (Ent.lst 3 R4), some (Ent.lst 5 R5), some (Ent.lst 4 R6), some (Ent.lst 5 R7), some (Ent.lst 4 R8)] =
  (run (Jy a a2 a3 (⟨a4xNo, a4xFinds, a4xSecrets, a4xSlots, a4xClaims, a4xTrials, a4xChain, a4xBook, a4xNow⟩ : House) a5) a6).map (fun (zr : Int) => (XE.exit 0, frm [(1, .i .i64 a), (3, .i .i64 a2), (4, .ptr 0 0 0), (8, .ptr 1 0 0), (10, .ptr 2 0 0), (12, .b a5), (13, .i .i64 zr)], [some (Ent.box (QV a3)), some (Ent.box [.i .i64 0, .nil, .nil, .nil, .nil, .nil, .nil, .nil, .i .i64 0]), some (Ent.box [.i .i64 a4xNo, .sl 3, .sl 4, .sl 5, .sl 6, .sl 7, .sl 8, .sl 9, .i .i64 a4xNow]), some (Ent.lst 8 (a4xFinds.map QE)), some (Ent.lst 3 (a4xSecrets.map QB)), some (Ent.lst 3 (a4xSlots.map QX)), some (Ent.lst 5 (a4xClaims.map Qj)), some (Ent.lst 4 (a4xTrials.map QS)), some (Ent.lst 5 (a4xChain.map Vv)), some (Ent.lst 4 (a4xBook.map Vk))])) := by
 rcases H1, H2, H3, H4, H5, H6, H7, H8 with ⟨⟨rfl⟩, ⟨rfl⟩, ⟨rfl⟩, ⟨rfl⟩, ⟨rfl⟩, ⟨rfl⟩, ⟨rfl⟩, ⟨rfl⟩⟩
 rw [Qy]
 simp -dsimp only [↓evA, evB, Qo, Tryz.func83, Tryz.f83, QPE, QwS, TP, TZ, Nat.reduceAdd, Nat.reduceMul, Nat.reduceBEq, Nat.reduceLeDiff, Nat.reduceLT]
 apply Qs a6
 intro a6
 simp -dsimp +contextual (maxSteps := 100000000) only [↓evA, eZ, Nat.reduceAdd, Nat.reduceMul, Nat.reduceBEq, Nat.reduceLeDiff, Nat.reduceLT, srt]
 try simp only [Jy, eY]
 try simp only [List.contains_nil, Bool.not_false, Bool.and_true, VK, List.length_append, List.length_cons, List.length_nil, Nat.zero_add, VL, V0]
 all_goals rfl
theorem Qke (a2 a3 a4) {R1 a} [H1 : EncR QV R1 a] : CP T (n + 13) 83 [.agg R1, .i .i64 a2, .i .i64 a3, .i .i64 a4] = (Xj a a2 a3 a4).map fun r => .tup [.agg (VU r.1), .b r.2] := by
 obtain ⟨rfl⟩ := H1
 rw [Qf]
 simp -dsimp +contextual (maxSteps := 100000000) only [↓evA, eZ, Nat.reduceAdd, Nat.reduceMul, Nat.reduceBEq, Nat.reduceLeDiff, Nat.reduceLT, Tryz.func83, Tryz.f83, QPE, QwS, srt, Jo, Qlx, Qdx, QbI, Qhu]
 try simp only [Xj, eY]
 try simp only [List.contains_nil, Bool.not_false, Bool.and_true, VK, List.length_append, List.length_cons, List.length_nil, Nat.zero_add, VL, V0]
 all_goals rfl
theorem Qlj (a2) {R1 a} [H1 : EncR QV R1 a] : CP T (n + 13) 84 [.agg R1, .i .i64 a2] = (Jk a a2).map fun r => .tup [.agg (VU r.1), .b r.2] := by
 obtain ⟨rfl⟩ := H1
 rw [Qf]
 simp -dsimp +contextual (maxSteps := 100000000) only [↓evA, eZ, Nat.reduceAdd, Nat.reduceMul, Nat.reduceBEq, Nat.reduceLeDiff, Nat.reduceLT, Tryz.func84, Tryz.f84, QRJ, QCX, srt, Jo, Xe, QbI]
 try simp only [Jk, eY]
 all_goals rfl
theorem Qgg (a k i) {R1 l} [H1 : EncL Qj R1 l] : LP T (n + 1) 131 3 (frm [(0, .imm 5 R1), (1, .i .i64 a), (5, .i .i64 k), (6, .i .i64 i)]) [] =
  (run (Vm l a) (k, i)).map (fun (zr : Int) => (XE.exit 0, frm [(0, .imm 5 (l.map Qj)), (5, .i .i64 zr)], [])) := by
 obtain ⟨rfl⟩ := H1
 rw [Qy]
 simp -dsimp only [↓evA, evB, Qo, Tryz.func131, Tryz.f131, QDF, QrJ, TP, TZ, Nat.reduceAdd, Nat.reduceMul, Nat.reduceBEq, Nat.reduceLeDiff, Nat.reduceLT]
 apply VS k i
 intro k i
 simp -dsimp +contextual only [↓evA, eZ, Nat.reduceAdd, Nat.reduceMul, Nat.reduceBEq, Nat.reduceLeDiff, Nat.reduceLT]
 try simp only [Vm, eY]
 all_goals rfl
theorem Qie (a) {R1 l} [H1 : EncL Qj R1 l] : CP T (n + 2) 131 [.imm 5 R1, .i .i64 a] = (Zf l a).map fun r => .i .i64 r := by
 obtain ⟨rfl⟩ := H1
 rw [Qf]
 simp -dsimp +contextual only [↓evA, eZ, Nat.reduceAdd, Nat.reduceMul, Nat.reduceBEq, Nat.reduceLeDiff, Nat.reduceLT, Tryz.func131, Tryz.f131, QDF, QrJ, Qgg]
 try simp only [Zf, eY]
 all_goals rfl
end Go.Proofs.YtponohekgnklkaaGreat
