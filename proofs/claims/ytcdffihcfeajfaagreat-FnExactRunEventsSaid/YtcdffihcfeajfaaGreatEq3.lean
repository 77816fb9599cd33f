import Derived.Test.YtcdffihcfeajfaaGreatEq2
namespace Go.Proofs.YtcdffihcfeajfaaGreat
open Go Go.Proofs Go.Proofs.YtcdffihcfeajfaaGreat.Am
set_option maxHeartbeats 4000000
set_option linter.unusedVariables false
set_option linter.unusedSimpArgs false
set_option linter.defProp false
set_option maxRecDepth 100000
variable (n : Nat)
theorem QnA {R1 f} [H1 : EncR Qv R1 f] : CP T (n + 4) 249 [.agg R1] = (QeU f).map fun r => .i .i64 r := by
 obtain ⟨rfl⟩ := H1
 rw [Qc]
 simp -dsimp +contextual only [↓evA, eZ, Nat.reduceAdd, Nat.reduceMul, Nat.reduceBEq, Nat.reduceLeDiff, Nat.reduceLT, Tryz.func249, Tryz.f249, QVq, QBE, QfL, Qm4]
 try simp only [QeU, eY]
 all_goals rfl
theorem Qrz (a) {R1 f} [H1 : EncR Qv R1 f] : CP T (n + 5) 213 [.agg R1, .i .i64 a] = (Qff f a).map fun r => .b r := by
 obtain ⟨rfl⟩ := H1
 rw [Qc]
 simp -dsimp +contextual only [↓evA, eZ, Nat.reduceAdd, Nat.reduceMul, Nat.reduceBEq, Nat.reduceLeDiff, Nat.reduceLT, Tryz.func213, Tryz.f213, QQq, QDX, QfL, QnA]
 try simp only [Qff, eY]
 all_goals rfl
theorem QlY (a i) {R1 l R2 f} [H1 : EncL Qg R1 l] [H2 : EncR Qv R2 f] : LP T (n + 1) 127 4 (frm [(1, .imm 5 R1), (2, .i .i64 a), (3, .ptr 0 0 0), (7, .i .i64 i)]) [some (Ent.box R2)] =
  VR (run (Qay l a f) i) (fun (zr : Int) => (XE.ret, frm [(6, .i .i64 zr)], [])) (fun (zr : Unit) => (XE.exit 0, frm [(2, .i .i64 a), (3, .ptr 0 0 0)], [some (Ent.box (Qv f))])) := by
 rcases H1, H2 with ⟨⟨rfl⟩, ⟨rfl⟩⟩
 rw [Qn]
 simp -dsimp only [↓evA, evB, Qf, Tryz.func127, Tryz.f127, QJd, Qzy, TP, TZ, Nat.reduceAdd, Nat.reduceMul, Nat.reduceBEq, Nat.reduceLeDiff, Nat.reduceLT]
 apply Ql i
 intro i
 simp -dsimp +contextual only [↓evA, eZ, Nat.reduceAdd, Nat.reduceMul, Nat.reduceBEq, Nat.reduceLeDiff, Nat.reduceLT]
 try simp only [Qay, eY]
 all_goals rfl
theorem QiI (a) {R1 f R2 l} [H1 : EncR Qv R1 f] [H2 : EncL Qg R2 l] : CP T (n + 6) 127 [.agg R1, .imm 5 R2, .i .i64 a] = (Qdi f l a).map fun r => .i .i64 r := by
 rcases H1, H2 with ⟨⟨rfl⟩, ⟨rfl⟩⟩
 rw [Qc]
 simp -dsimp +contextual only [↓evA, eZ, Nat.reduceAdd, Nat.reduceMul, Nat.reduceBEq, Nat.reduceLeDiff, Nat.reduceLT, Tryz.func127, Tryz.f127, QJd, Qzy, Qfa, Qrz, QlY]
 try simp only [Qdi, eY]
 all_goals rfl
theorem QhD (c a3 a4) {R1 a R2 a2} [H1 : EncL Vg R1 a] [H2 : EncL Vg R2 a2] : LP T (n + 2) 224 4 (frm [(0, .i .i64 c), (1, .imm 1 R1), (5, .sl 0), (6, .i .i64 a3), (7, .i .i64 a4)]) [some (Ent.lst 1 R2)] =
  VR (run (XW c a a2) (a3, a4)) (fun (zr : (List Int)) => (XE.ret, frm [(4, .sl 0)], [some (Ent.lst 1 (zr.map Vg))])) (fun (zr : Int) => (XE.exit 0, frm [(0, .i .i64 c), (1, .imm 1 (a.map Vg)), (5, .sl 0), (6, .i .i64 zr)], [some (Ent.lst 1 (a2.map Vg))])) := by
 rcases H1, H2 with ⟨⟨rfl⟩, ⟨rfl⟩⟩
 rw [Qn]
 simp -dsimp only [↓evA, evB, Qf, Tryz.func224, Tryz.f224, QBR, Qtn, TP, TZ, Nat.reduceAdd, Nat.reduceMul, Nat.reduceBEq, Nat.reduceLeDiff, Nat.reduceLT]
 apply QD a3 a4
 intro a3 a4
 simp -dsimp +contextual only [↓evA, eZ, Nat.reduceAdd, Nat.reduceMul, Nat.reduceBEq, Nat.reduceLeDiff, Nat.reduceLT, Vr]
 try simp only [XW, eY]
 all_goals rfl
theorem QgN (c a3 a4 a5) {R1 a R2 a2} [H1 : EncL Vg R1 a] [H2 : EncL Vg R2 a2] : LP T (n + 1) 224 13 (frm [(0, .i .i64 c), (1, .imm 1 R1), (5, .sl 0), (6, .i .i64 a3), (8, .i .i64 a4), (9, .i .i64 a5)]) [some (Ent.lst 1 R2)] =
  (run (VV c a a3) (a2, a4, a5)).map (fun (zr : (List Int) × Int) => (XE.exit 2, frm [(5, .sl 0), (8, .i .i64 zr.2)], [some (Ent.lst 1 (zr.1.map Vg))])) := by
 rcases H1, H2 with ⟨⟨rfl⟩, ⟨rfl⟩⟩
 rw [Qn]
 simp -dsimp only [↓evA, evB, Qf, Tryz.func224, Tryz.f224, QBR, Qtn, TP, TZ, Nat.reduceAdd, Nat.reduceMul, Nat.reduceBEq, Nat.reduceLeDiff, Nat.reduceLT]
 apply JG a2 a4 a5
 intro a2 a4 a5
 simp -dsimp +contextual only [↓evA, eZ, Nat.reduceAdd, Nat.reduceMul, Nat.reduceBEq, Nat.reduceLeDiff, Nat.reduceLT]
 try simp only [VV, eY]
 all_goals rfl
theorem QgT (a2 a3) {R1 a} [H1 : EncL Vg R1 a] : LP T (n + 1) 224 18 (frm [(5, .sl 0), (8, .i .i64 a2), (10, .i .i64 a3)]) [some (Ent.lst 1 R1)] =
  (run (Xu a2) (a, a3)).map (fun (zr : (List Int)) => (XE.exit 4, frm [(5, .sl 0)], [some (Ent.lst 1 (zr.map Vg))])) := by
 obtain ⟨rfl⟩ := H1
 rw [Qn]
 simp -dsimp only [↓evA, evB, Qf, Tryz.func224, Tryz.f224, QBR, Qtn, TP, TZ, Nat.reduceAdd, Nat.reduceMul, Nat.reduceBEq, Nat.reduceLeDiff, Nat.reduceLT]
 apply QD a a3
 intro a a3
 simp -dsimp +contextual only [↓evA, eZ, Nat.reduceAdd, Nat.reduceMul, Nat.reduceBEq, Nat.reduceLeDiff, Nat.reduceLT]
 try simp only [Xu, eY]
 all_goals rfl
theorem Qks (c) {R1 a} [H1 : EncL Vg R1 a] : CP T (n + 3) 224 [.i .i64 c, .imm 1 R1] = (Qa1 c a).map fun r => .own 1 (r.map Vg) := by
 obtain ⟨rfl⟩ := H1
 rw [Qc]
 simp -dsimp +contextual only [↓evA, eZ, Nat.reduceAdd, Nat.reduceMul, Nat.reduceBEq, Nat.reduceLeDiff, Nat.reduceLT, Tryz.func224, Tryz.f224, QBR, Qtn, Vr, QhD, QgN, QgT]
 try simp only [Qa1, eY]
 all_goals first | rfl | (simp +contextual only [evN] <;> rfl)
theorem QoI (p f) : CP T (n + 4) 141 [.i .i64 p, .i .i64 f] = (Qd0 p f).map fun r => .own 2 (r.map Qje) := by
 rw [Qc]
 simp -dsimp +contextual only [↓evA, eZ, Nat.reduceAdd, Nat.reduceMul, Nat.reduceBEq, Nat.reduceLeDiff, Nat.reduceLT, Tryz.func141, Tryz.f141, QVt, QCB, Vr, Qks]
 try simp only [Qd0, eY]
 all_goals first | rfl | (simp +contextual only [evN] <;> rfl)
theorem QmG (a2) {R1 a R2 a3} [H1 : EncR QC R1 a] [H2 : EncL Vx R2 a3] : CP T (n + 13) 42 [.agg R1, .i .i64 a2, .imm 3 R2] = (QcU a a2 a3).map fun r => .tup [.agg (Vz r.1), .b r.2] := by
 rcases H1, H2 with ⟨⟨rfl⟩, ⟨rfl⟩⟩
 rw [Qc]
 simp -dsimp +contextual (maxSteps := 100000000) only [↓evA, eZ, Nat.reduceAdd, Nat.reduceMul, Nat.reduceBEq, Nat.reduceLeDiff, Nat.reduceLT, Tryz.func42, Tryz.f42, a42, n42, srt, Zb, Qpm, QbV, QiI, VM, QfI, QiN, QoI, Zi]
 try simp only [QcU, eY]
 try simp only [List.contains_nil, Bool.not_false, Bool.and_true, VF, List.length_append, List.length_cons, List.length_nil, Nat.zero_add, VC, VL]
 all_goals rfl
theorem Qlk (a2) {R1 a} [H1 : EncR QC R1 a] : CP T (n + 13) 32 [.agg R1, .i .i64 a2] = (QbY a a2).map fun r => .tup [.agg (Vz r.1), .b r.2] := by
 obtain ⟨rfl⟩ := H1
 rw [Qc]
 simp -dsimp +contextual (maxSteps := 100000000) only [↓evA, eZ, Nat.reduceAdd, Nat.reduceMul, Nat.reduceBEq, Nat.reduceLeDiff, Nat.reduceLT, Tryz.func32, Tryz.f32, a32, n32, srt, Zb, QbV, VM, QiI, QfI, Zi]
 try simp only [QbY, eY]
 try simp only [List.contains_nil, Bool.not_false, Bool.and_true, VF, List.length_append, List.length_cons, List.length_nil, Nat.zero_add, VC, VL]
 all_goals rfl
theorem QmR (a2) {R1 a} [H1 : EncR QC R1 a] : CP T (n + 13) 23 [.agg R1, .i .i64 a2] = (QcX a a2).map fun r => .tup [.agg (Vz r.1), .b r.2] := by
 obtain ⟨rfl⟩ := H1
 rw [Qc]
 simp -dsimp +contextual (maxSteps := 100000000) only [↓evA, eZ, Nat.reduceAdd, Nat.reduceMul, Nat.reduceBEq, Nat.reduceLeDiff, Nat.reduceLT, Tryz.func23, Tryz.f23, a23, n23, srt, VM, Vr, Zi]
 try simp only [QcX, eY]
 all_goals rfl
theorem Qkj {R1 a R2 a2} [H1 : EncR QC R1 a] [H2 : EncR XB R2 a2] : CP T (n + 14) 48 [.agg R1, .agg R2] = (QaS a a2).map fun r => .tup [.agg (Vz r.1), .b r.2] := by
 rcases H1, H2 with ⟨⟨rfl⟩, ⟨rfl⟩⟩
 rw [Qc]
 simp -dsimp +contextual (maxSteps := 100000000) only [↓evA, eZ, Nat.reduceAdd, Nat.reduceMul, Nat.reduceBEq, Nat.reduceLeDiff, Nat.reduceLT, Tryz.func48, Tryz.f48, a48, n48, Qmp, Qlj, QkU, Ql3, QmG, Qlk, QmR, VM]
 try simp only [QaS, eY]
 all_goals rfl
theorem Qij (oxNo oxNow i) {R1 l R2 oxFinds R3 oxSecrets R4 oxSlots R5 oxClaims R6 oxTrials R7 oxChain R8 oxBook} [H1 : EncL XB R1 l] [H2 : EncL Qv R2 oxFinds] [H3 : EncL Qw R3 oxSecrets] [H4 : EncL QL R4 oxSlots] [H5 : EncL Qg R5 oxClaims] [H6 : EncL QA R6 oxTrials] [H7 : EncL Q1 R7 oxChain] [H8 : EncL QK R8 oxBook] : LP T (n + 15) 54 3 (frm [(1, .imm 14 R1), (4, .ptr 0 0 0), (5, .ptr 1 0 0), (6, .i .i64 i)]) [some (Ent.box [.i .i64 0, .nil, .nil, .nil, .nil, .nil, .nil, .nil, .i .i64 0]), some (Ent.box [.i .i64 oxNo, .sl 2, .sl 3, .sl 4, .sl 5, .sl 6, .sl 7, .sl 8, .i .i64 oxNow]), some (Ent.lst 8 R2), some (Ent.lst 3 R3), some (Ent.lst 3 R4), some (Ent.lst 5 R5), some (Ent.lst 4 R6), some (Ent.lst 5 R7), some (Ent.lst 4 R8)] =
  (run (VW l) ((⟨oxNo, oxFinds, oxSecrets, oxSlots, oxClaims, oxTrials, oxChain, oxBook, oxNow⟩ : House), i)).map (fun (zr : House) => (XE.exit 0, frm [(4, .ptr 0 0 0), (5, .ptr 1 0 0)], [some (Ent.box [.i .i64 0, .nil, .nil, .nil, .nil, .nil, .nil, .nil, .i .i64 0]), some (Ent.box [.i .i64 zr.No, .sl 2, .sl 3, .sl 4, .sl 5, .sl 6, .sl 7, .sl 8, .i .i64 zr.Now]), some (Ent.lst 8 (zr.Finds.map Qv)), some (Ent.lst 3 (zr.Secrets.map Qw)), some (Ent.lst 3 (zr.Slots.map QL)), some (Ent.lst 5 (zr.Claims.map Qg)), some (Ent.lst 4 (zr.Trials.map QA)), some (Ent.lst 5 (zr.Chain.map Q1)), some (Ent.lst 4 (zr.Book.map QK))])) := by
 rcases H1, H2, H3, H4, H5, H6, H7, H8 with ⟨⟨rfl⟩, ⟨rfl⟩, ⟨rfl⟩, ⟨rfl⟩, ⟨rfl⟩, ⟨rfl⟩, ⟨rfl⟩, ⟨rfl⟩⟩
 rw [Qn]
 simp -dsimp only [↓evA, evB, Qf, Tryz.func54, Tryz.f54, a54, n54, TP, TZ, Nat.reduceAdd, Nat.reduceMul, Nat.reduceBEq, Nat.reduceLeDiff, Nat.reduceLT]
 refine run_map (fun (zs : House × Int) => (frm [(1, .imm 14 (l.map XB)), (4, .ptr 0 0 0), (5, .ptr 1 0 0), (6, .i .i64 zs.2)], [some (Ent.box [.i .i64 0, .nil, .nil, .nil, .nil, .nil, .nil, .nil, .i .i64 0]), some (Ent.box [.i .i64 zs.1.No, .sl 2, .sl 3, .sl 4, .sl 5, .sl 6, .sl 7, .sl 8, .i .i64 zs.1.Now]), some (Ent.lst 8 (zs.1.Finds.map Qv)), some (Ent.lst 3 (zs.1.Secrets.map Qw)), some (Ent.lst 3 (zs.1.Slots.map QL)), some (Ent.lst 5 (zs.1.Claims.map Qg)), some (Ent.lst 4 (zs.1.Trials.map QA)), some (Ent.lst 5 (zs.1.Chain.map Q1)), some (Ent.lst 4 (zs.1.Book.map QK))])) _ ?_ ((⟨oxNo, oxFinds, oxSecrets, oxSlots, oxClaims, oxTrials, oxChain, oxBook, oxNow⟩ : House), i)
 rintro ⟨o, i⟩
 simp -dsimp +contextual (maxSteps := 100000000) only [↓evA, eZ, Nat.reduceAdd, Nat.reduceMul, Nat.reduceBEq, Nat.reduceLeDiff, Nat.reduceLT, Qkj]
 try simp only [VW, eY]
 all_goals rfl
theorem QlC {R1 a R2 l} [H1 : EncR QC R1 a] [H2 : EncL XB R2 l] : CP T (n + 16) 54 [.agg R1, .imm 14 R2] = (QbG a l).map fun r => .agg (Vz r) := by
 rcases H1, H2 with ⟨⟨rfl⟩, ⟨rfl⟩⟩
 rw [Qc]
 simp -dsimp +contextual (maxSteps := 100000000) only [↓evA, eZ, Nat.reduceAdd, Nat.reduceMul, Nat.reduceBEq, Nat.reduceLeDiff, Nat.reduceLT, Tryz.func54, Tryz.f54, a54, n54, VM, Qij]
 try simp only [QbG, eY]
 all_goals rfl
theorem QeL {R1 s} [H1 : EncL Qv R1 s] : CP T (n + 1) 177 [.imm 8 R1] = (Xk s).map fun r => .own 8 (r.map Qv) := by
 obtain ⟨rfl⟩ := H1
 rw [Qc]
 simp -dsimp +contextual only [↓evA, eZ, Nat.reduceAdd, Nat.reduceMul, Nat.reduceBEq, Nat.reduceLeDiff, Nat.reduceLT, Tryz.func177, Tryz.f177, QUV, QAI]
 try simp only [Xk, eY]
 all_goals first | rfl | (simp +contextual only [evN] <;> rfl)
theorem Qcx {R1 s} [H1 : EncL Vf R1 s] : CP T (n + 1) 193 [.imm 2 R1] = (VY s).map fun r => .own 2 (r.map Vf) := by
 obtain ⟨rfl⟩ := H1
 rw [Qc]
 simp -dsimp +contextual only [↓evA, eZ, Nat.reduceAdd, Nat.reduceMul, Nat.reduceBEq, Nat.reduceLeDiff, Nat.reduceLT, Tryz.func193, Tryz.f193, QSq, QAD]
 try simp only [VY, eY]
 all_goals first | rfl | (simp +contextual only [evN] <;> rfl)
theorem Qgf (a2 a3) {R1 o R2 a} [H1 : EncL Qw R1 o] [H2 : EncL QH R2 a] : LP T (n + 2) 178 3 (frm [(3, .sl 0), (7, .imm 3 R2), (8, .i .i64 a2), (9, .i .i64 a3)]) [some (Ent.lst 3 R1)] =
  (run (VN a a2) (o, a3)).map (fun (zr : (List Secret)) => (XE.exit 0, frm [(3, .sl 0)], [some (Ent.lst 3 (zr.map Qw))])) := by
 rcases H1, H2 with ⟨⟨rfl⟩, ⟨rfl⟩⟩
 rw [Qn]
 simp -dsimp only [↓evA, evB, Qf, Tryz.func178, Tryz.f178, QNF, QzK, TP, TZ, Nat.reduceAdd, Nat.reduceMul, Nat.reduceBEq, Nat.reduceLeDiff, Nat.reduceLT]
 apply QD o a3
 intro o a3
 simp -dsimp +contextual only [↓evA, eZ, Nat.reduceAdd, Nat.reduceMul, Nat.reduceBEq, Nat.reduceLeDiff, Nat.reduceLT, Qcx]
 try simp only [VN, eY]
 all_goals rfl
theorem QeK {R1 l} [H1 : EncL QH R1 l] : CP T (n + 3) 178 [.imm 3 R1] = (Xo l).map fun r => .own 3 (r.map Qw) := by
 obtain ⟨rfl⟩ := H1
 rw [Qc]
 simp -dsimp +contextual only [↓evA, eZ, Nat.reduceAdd, Nat.reduceMul, Nat.reduceBEq, Nat.reduceLeDiff, Nat.reduceLT, Tryz.func178, Tryz.f178, QNF, QzK, Qgf]
 try simp only [Xo, eY]
 all_goals first | rfl | (simp +contextual only [evN] <;> rfl)
theorem Qcu {R1 s} [H1 : EncL QL R1 s] : CP T (n + 1) 63 [.imm 3 R1] = (VZ s).map fun r => .own 3 (r.map QL) := by
 obtain ⟨rfl⟩ := H1
 rw [Qc]
 simp -dsimp +contextual only [↓evA, eZ, Nat.reduceAdd, Nat.reduceMul, Nat.reduceBEq, Nat.reduceLeDiff, Nat.reduceLT, Tryz.func63, Tryz.f63, a63, n63]
 try simp only [VZ, eY]
 all_goals first | rfl | (simp +contextual only [evN] <;> rfl)
theorem QbJ {R1 s} [H1 : EncL Qg R1 s] : CP T (n + 1) 179 [.imm 5 R1] = (Vk s).map fun r => .own 5 (r.map Qg) := by
 obtain ⟨rfl⟩ := H1
 rw [Qc]
 simp -dsimp +contextual only [↓evA, eZ, Nat.reduceAdd, Nat.reduceMul, Nat.reduceBEq, Nat.reduceLeDiff, Nat.reduceLT, Tryz.func179, Tryz.f179, QS0, QDz]
 try simp only [Vk, eY]
 all_goals first | rfl | (simp +contextual only [evN] <;> rfl)
theorem Qg8 {R1 s} [H1 : EncL QA R1 s] : CP T (n + 1) 180 [.imm 4 R1] = (QaL s).map fun r => .own 4 (r.map QA) := by
 obtain ⟨rfl⟩ := H1
 rw [Qc]
 simp -dsimp +contextual only [↓evA, eZ, Nat.reduceAdd, Nat.reduceMul, Nat.reduceBEq, Nat.reduceLeDiff, Nat.reduceLT, Tryz.func180, Tryz.f180, QUA, QC1]
 try simp only [QaL, eY]
 all_goals first | rfl | (simp +contextual only [evN] <;> rfl)
theorem QeN {R1 s} [H1 : EncL Q1 R1 s] : CP T (n + 1) 181 [.imm 5 R1] = (VJ s).map fun r => .own 5 (r.map Q1) := by
 obtain ⟨rfl⟩ := H1
 rw [Qc]
 simp -dsimp +contextual only [↓evA, eZ, Nat.reduceAdd, Nat.reduceMul, Nat.reduceBEq, Nat.reduceLeDiff, Nat.reduceLT, Tryz.func181, Tryz.f181, QRg, QAX]
 try simp only [VJ, eY]
 all_goals first | rfl | (simp +contextual only [evN] <;> rfl)
theorem QeA {R1 s} [H1 : EncL QK R1 s] : CP T (n + 1) 182 [.imm 4 R1] = (Xb s).map fun r => .own 4 (r.map QK) := by
 obtain ⟨rfl⟩ := H1
 rw [Qc]
 simp -dsimp +contextual only [↓evA, eZ, Nat.reduceAdd, Nat.reduceMul, Nat.reduceBEq, Nat.reduceLeDiff, Nat.reduceLT, Tryz.func182, Tryz.f182, a182, QCQ]
 try simp only [Xb, eY]
 all_goals first | rfl | (simp +contextual only [evN] <;> rfl)
theorem Q5 {R1 a} [H1 : EncR QC R1 a] : CP T (n + 4) 99 [.agg R1] = (QO a).map fun r => .agg (Vz r) := by
 obtain ⟨rfl⟩ := H1
 rw [Qc]
 simp -dsimp +contextual (maxSteps := 100000000) only [↓evA, eZ, Nat.reduceAdd, Nat.reduceMul, Nat.reduceBEq, Nat.reduceLeDiff, Nat.reduceLT, Tryz.func99, Tryz.f99, a99, n99, QeL, QeK, Qcu, QbJ, Qg8, QeN, QeA]
 try simp only [QO, eY]
 all_goals rfl
theorem Qjo (c) {R1 f} [H1 : EncR Qv R1 f] : CP T (n + 1) 248 [.agg R1, .iptr 1 [[.i .i64 c]] 0 0] = (Qcc f c).map fun r => .b r := by
 obtain ⟨rfl⟩ := H1
 rw [Qc]
 simp -dsimp +contextual only [↓evA, eZ, Nat.reduceAdd, Nat.reduceMul, Nat.reduceBEq, Nat.reduceLeDiff, Nat.reduceLT, Tryz.func248, Tryz.f248, QUX, QAU]
 try simp only [Qcc, eY]
 all_goals rfl
theorem Z7 (f a a2) {R1 s} [H1 : EncL Qv R1 s] : LP T (n + 2) 247 2 (frm [(0, .imm 8 R1), (1, .clo 248 [.iptr 1 [[.i .i64 f]] 0 0]), (7, .i .i64 a), (8, .i .i64 a2)]) [] =
  VR (run (Qy s f a) a2) (fun (zr : Int) => (XE.ret, frm [(4, .i .i64 zr)], [])) (fun (zr : Unit) => (XE.exit 0, frm [], [])) := by
 obtain ⟨rfl⟩ := H1
 rw [Qn]
 simp -dsimp only [↓evA, evB, Qf, Tryz.func247, Tryz.f247, QOz, Qyu, TP, TZ, Nat.reduceAdd, Nat.reduceMul, Nat.reduceBEq, Nat.reduceLeDiff, Nat.reduceLT]
 apply Ql a2
 intro a2
 simp -dsimp +contextual only [↓evA, eZ, Nat.reduceAdd, Nat.reduceMul, Nat.reduceBEq, Nat.reduceLeDiff, Nat.reduceLT, Qjo]
 try simp only [Qy, eY]
 all_goals rfl
theorem Qbd (c) {R1 s} [H1 : EncL Qv R1 s] : CP T (n + 3) 247 [.imm 8 R1, .clo 248 [.iptr 1 [[.i .i64 c]] 0 0]] = (Vn s c).map fun r => .i .i64 r := by
 obtain ⟨rfl⟩ := H1
 rw [Qc]
 simp -dsimp +contextual only [↓evA, eZ, Nat.reduceAdd, Nat.reduceMul, Nat.reduceBEq, Nat.reduceLeDiff, Nat.reduceLT, Tryz.func247, Tryz.f247, QOz, Qyu, Z7]
 try simp only [Vn, eY]
 all_goals rfl
theorem Z8 (i) {R1 l} [H1 : EncL Qv R1 l] : CP T (n + 4) 210 [.imm 8 R1, .i .i64 i] = (Xm l i).map fun r => .i .i64 r := by
 obtain ⟨rfl⟩ := H1
 rw [Qc]
 simp -dsimp +contextual only [↓evA, eZ, Nat.reduceAdd, Nat.reduceMul, Nat.reduceBEq, Nat.reduceLeDiff, Nat.reduceLT, Tryz.func210, Tryz.f210, QU0, QDo, Qbd]
 try simp only [Xm, eY]
 all_goals rfl
theorem QY (a l a2) : CP T (n + 1) 101 [.i .i64 a, .i .i64 l, .i .i64 a2] = (Qb a l a2).map fun r => .b r := by
 rw [Qc]
 simp -dsimp +contextual only [↓evA, eZ, Nat.reduceAdd, Nat.reduceMul, Nat.reduceBEq, Nat.reduceLeDiff, Nat.reduceLT, Tryz.func101, Tryz.f101, QSo, QBe]
 try simp only [Qb, eY]
 all_goals rfl
theorem QeX {R1 a} [H1 : EncR ZX R1 a] : CP T (n + 2) 212 [.agg R1] = (ZP a).map fun r => .b r := by
 obtain ⟨rfl⟩ := H1
 rw [Qc]
 simp -dsimp +contextual only [↓evA, eZ, Nat.reduceAdd, Nat.reduceMul, Nat.reduceBEq, Nat.reduceLeDiff, Nat.reduceLT, Tryz.func212, Tryz.f212, QTn, QDR, QY]
 try simp only [ZP, eY]
 all_goals rfl
theorem QfR {R1 f} [H1 : EncR Qv R1 f] : CP T (n + 3) 233 [.agg R1] = (QaD f).map fun r => .b r := by
 obtain ⟨rfl⟩ := H1
 rw [Qc]
 simp -dsimp +contextual only [↓evA, eZ, Nat.reduceAdd, Nat.reduceMul, Nat.reduceBEq, Nat.reduceLeDiff, Nat.reduceLT, Tryz.func233, Tryz.f233, QUm, QCu, QeX, QY]
 try simp only [QaD, eY]
 all_goals rfl
theorem Qjc (a2 a3) {R1 l R2 a} [H1 : EncL Qv R1 l] [H2 : EncL Qv R2 a] : LP T (n + 4) 156 4 (frm [(0, .imm 8 R1), (8, .imm 8 R2), (9, .i .i64 a2), (10, .i .i64 a3)]) [] =
  VR (run (Zd l a a2) a3) (fun (zr : Bool) => (XE.ret, frm [(2, .b zr)], [])) (fun (zr : Unit) => (XE.exit 0, frm [], [])) := by
 rcases H1, H2 with ⟨⟨rfl⟩, ⟨rfl⟩⟩
 rw [Qn]
 simp -dsimp only [↓evA, evB, Qf, Tryz.func156, Tryz.f156, QLf, Qzd, TP, TZ, Nat.reduceAdd, Nat.reduceMul, Nat.reduceBEq, Nat.reduceLeDiff, Nat.reduceLT]
 apply Ql a3
 intro a3
 simp -dsimp +contextual only [↓evA, eZ, Nat.reduceAdd, Nat.reduceMul, Nat.reduceBEq, Nat.reduceLeDiff, Nat.reduceLT, QfR]
 try simp only [Zd, eY]
 all_goals rfl
theorem QgH {R1 l} [H1 : EncL Qv R1 l] : CP T (n + 5) 156 [.imm 8 R1] = (ZY l).map fun r => .b r := by
 obtain ⟨rfl⟩ := H1
 rw [Qc]
 simp -dsimp +contextual only [↓evA, eZ, Nat.reduceAdd, Nat.reduceMul, Nat.reduceBEq, Nat.reduceLeDiff, Nat.reduceLT, Tryz.func156, Tryz.f156, QLf, Qzd, Qjc]
 try simp only [ZY, eY]
 all_goals rfl
theorem QkA (a) {R1 l R2 f R3 o} [H1 : EncL Qv R1 l] [H2 : EncR Qv R2 f] [H3 : EncL Qv R3 o] : LP T (n + 1) 135 5 (frm [(0, .imm 8 R1), (3, .ptr 0 0 0), (6, .sl 1), (7, .i .i64 a)]) [some (Ent.box R2), some (Ent.lst 8 R3)] =
  (run (Qc3 l f o) a).map (fun (zr : Int) => (XE.exit 0, frm [(0, .imm 8 (l.map Qv)), (3, .ptr 0 0 0), (6, .sl 1), (7, .i .i64 zr)], [some (Ent.box (Qv f)), some (Ent.lst 8 (o.map Qv))])) := by
 rcases H1, H2, H3 with ⟨⟨rfl⟩, ⟨rfl⟩, ⟨rfl⟩⟩
 rw [Qn]
 simp -dsimp only [↓evA, evB, Qf, Tryz.func135, Tryz.f135, QPD, Qyr, TP, TZ, Nat.reduceAdd, Nat.reduceMul, Nat.reduceBEq, Nat.reduceLeDiff, Nat.reduceLT]
 apply Ql a
 intro a
 simp -dsimp +contextual only [↓evA, eZ, Nat.reduceAdd, Nat.reduceMul, Nat.reduceBEq, Nat.reduceLeDiff, Nat.reduceLT, srt]
 try simp only [Qc3, eY]
 all_goals rfl
theorem Qpf {R1 l R2 f} [H1 : EncL Qv R1 l] [H2 : EncR Qv R2 f] : CP T (n + 6) 135 [.imm 8 R1, .agg R2] = (QdX l f).map fun r => .tup [.own 8 (r.1.map Qv), .b r.2] := by
 rcases H1, H2 with ⟨⟨rfl⟩, ⟨rfl⟩⟩
 rw [Qc]
 simp -dsimp +contextual only [↓evA, eZ, Nat.reduceAdd, Nat.reduceMul, Nat.reduceBEq, Nat.reduceLeDiff, Nat.reduceLT, Tryz.func135, Tryz.f135, QPD, Qyr, srt, QeL, Z8, QAR, QgH, QkA]
 try simp only [QdX, eY]
 all_goals first | rfl | (simp +contextual only [evN] <;> rfl)
theorem Qj5 (c) {R1 a} [H1 : EncR QH R1 a] : CP T (n + 1) 242 [.agg R1, .iptr 1 [[.i .i64 c]] 0 0] = (Qa2 a c).map fun r => .b r := by
 obtain ⟨rfl⟩ := H1
 rw [Qc]
 simp -dsimp +contextual only [↓evA, eZ, Nat.reduceAdd, Nat.reduceMul, Nat.reduceBEq, Nat.reduceLeDiff, Nat.reduceLT, Tryz.func242, Tryz.f242, QQh, QBI]
 try simp only [Qa2, eY]
 all_goals rfl
theorem Z2 (f a a2) {R1 s} [H1 : EncL QH R1 s] : LP T (n + 2) 241 2 (frm [(0, .imm 3 R1), (1, .clo 242 [.iptr 1 [[.i .i64 f]] 0 0]), (7, .i .i64 a), (8, .i .i64 a2)]) [] =
  VR (run (Qi s f a) a2) (fun (zr : Int) => (XE.ret, frm [(4, .i .i64 zr)], [])) (fun (zr : Unit) => (XE.exit 0, frm [], [])) := by
 obtain ⟨rfl⟩ := H1
 rw [Qn]
 simp -dsimp only [↓evA, evB, Qf, Tryz.func241, Tryz.f241, QId, QAc, TP, TZ, Nat.reduceAdd, Nat.reduceMul, Nat.reduceBEq, Nat.reduceLeDiff, Nat.reduceLT]
 apply Ql a2
 intro a2
 simp -dsimp +contextual only [↓evA, eZ, Nat.reduceAdd, Nat.reduceMul, Nat.reduceBEq, Nat.reduceLeDiff, Nat.reduceLT, Qj5]
 try simp only [Qi, eY]
 all_goals rfl
theorem QaO (c) {R1 s} [H1 : EncL QH R1 s] : CP T (n + 3) 241 [.imm 3 R1, .clo 242 [.iptr 1 [[.i .i64 c]] 0 0]] = (QV s c).map fun r => .i .i64 r := by
 obtain ⟨rfl⟩ := H1
 rw [Qc]
 simp -dsimp +contextual only [↓evA, eZ, Nat.reduceAdd, Nat.reduceMul, Nat.reduceBEq, Nat.reduceLeDiff, Nat.reduceLT, Tryz.func241, Tryz.f241, QId, QAc, Z2]
 try simp only [QV, eY]
 all_goals rfl
theorem QgC (a) {R1 l} [H1 : EncL QH R1 l] : CP T (n + 4) 192 [.imm 3 R1, .i .i64 a] = (JK l a).map fun r => .i .i64 r := by
 obtain ⟨rfl⟩ := H1
 rw [Qc]
 simp -dsimp +contextual only [↓evA, eZ, Nat.reduceAdd, Nat.reduceMul, Nat.reduceBEq, Nat.reduceLeDiff, Nat.reduceLT, Tryz.func192, Tryz.f192, QU2, QDF, QaO]
 try simp only [JK, eY]
 all_goals rfl
theorem Qi7 (a2 a3) {R1 l R2 a} [H1 : EncL Vf R1 l] [H2 : EncL Vf R2 a] : LP T (n + 2) 197 4 (frm [(0, .imm 2 R1), (8, .imm 2 R2), (9, .i .i64 a2), (10, .i .i64 a3)]) [] =
  VR (run (JX l a a2) a3) (fun (zr : Bool) => (XE.ret, frm [(2, .b zr)], [])) (fun (zr : Unit) => (XE.exit 0, frm [], [])) := by
 rcases H1, H2 with ⟨⟨rfl⟩, ⟨rfl⟩⟩
 rw [Qn]
 simp -dsimp only [↓evA, evB, Qf, Tryz.func197, Tryz.f197, QLB, QzC, TP, TZ, Nat.reduceAdd, Nat.reduceMul, Nat.reduceBEq, Nat.reduceLeDiff, Nat.reduceLT]
 apply Ql a3
 intro a3
 simp -dsimp +contextual only [↓evA, eZ, Nat.reduceAdd, Nat.reduceMul, Nat.reduceBEq, Nat.reduceLeDiff, Nat.reduceLT, QY]
 try simp only [JX, eY]
 all_goals rfl
theorem QeI {R1 l} [H1 : EncL Vf R1 l] : CP T (n + 3) 197 [.imm 2 R1] = (ZZ l).map fun r => .b r := by
 obtain ⟨rfl⟩ := H1
 rw [Qc]
 simp -dsimp +contextual only [↓evA, eZ, Nat.reduceAdd, Nat.reduceMul, Nat.reduceBEq, Nat.reduceLeDiff, Nat.reduceLT, Tryz.func197, Tryz.f197, QLB, QzC, Qi7]
 try simp only [ZZ, eY]
 all_goals rfl
theorem Qhr (a2 a3) {R1 l R2 a} [H1 : EncL QH R1 l] [H2 : EncL QH R2 a] : LP T (n + 4) 157 4 (frm [(0, .imm 3 R1), (8, .imm 3 R2), (9, .i .i64 a2), (10, .i .i64 a3)]) [] =
  VR (run (XM l a a2) a3) (fun (zr : Bool) => (XE.ret, frm [(2, .b zr)], [])) (fun (zr : Unit) => (XE.exit 0, frm [], [])) := by
 rcases H1, H2 with ⟨⟨rfl⟩, ⟨rfl⟩⟩
 rw [Qn]
 simp -dsimp only [↓evA, evB, Qf, Tryz.func157, Tryz.f157, QMO, Qz0, TP, TZ, Nat.reduceAdd, Nat.reduceMul, Nat.reduceBEq, Nat.reduceLeDiff, Nat.reduceLT]
 apply Ql a3
 intro a3
 simp -dsimp +contextual only [↓evA, eZ, Nat.reduceAdd, Nat.reduceMul, Nat.reduceBEq, Nat.reduceLeDiff, Nat.reduceLT, QY, QeI]
 try simp only [XM, eY]
 all_goals rfl
theorem Qfy {R1 l} [H1 : EncL QH R1 l] : CP T (n + 5) 157 [.imm 3 R1] = (Jv l).map fun r => .b r := by
 obtain ⟨rfl⟩ := H1
 rw [Qc]
 simp -dsimp +contextual only [↓evA, eZ, Nat.reduceAdd, Nat.reduceMul, Nat.reduceBEq, Nat.reduceLeDiff, Nat.reduceLT, Tryz.func157, Tryz.f157, QMO, Qz0, Qhr]
 try simp only [Jv, eY]
 all_goals rfl
theorem Qiw (a2) {R1 l R2 a R3 o} [H1 : EncL QH R1 l] [H2 : EncR QH R2 a] [H3 : EncL Qw R3 o] : LP T (n + 1) 136 5 (frm [(0, .imm 3 R1), (3, .ptr 0 0 0), (6, .sl 1), (7, .i .i64 a2)]) [some (Ent.box R2), some (Ent.lst 3 R3)] =
  (run (Qbu l a o) a2).map (fun (zr : Int) => (XE.exit 0, frm [(0, .imm 3 (l.map QH)), (3, .ptr 0 0 0), (6, .sl 1), (7, .i .i64 zr)], [some (Ent.box (QH a)), some (Ent.lst 3 (o.map Qw))])) := by
 rcases H1, H2, H3 with ⟨⟨rfl⟩, ⟨rfl⟩, ⟨rfl⟩⟩
 rw [Qn]
 simp -dsimp only [↓evA, evB, Qf, Tryz.func136, Tryz.f136, QPy, QyH, TP, TZ, Nat.reduceAdd, Nat.reduceMul, Nat.reduceBEq, Nat.reduceLeDiff, Nat.reduceLT]
 apply Ql a2
 intro a2
 simp -dsimp +contextual only [↓evA, eZ, Nat.reduceAdd, Nat.reduceMul, Nat.reduceBEq, Nat.reduceLeDiff, Nat.reduceLT, srt]
 try simp only [Qbu, eY]
 all_goals rfl
theorem QlW {R1 l R2 a} [H1 : EncL QH R1 l] [H2 : EncR QH R2 a] : CP T (n + 6) 136 [.imm 3 R1, .agg R2] = (QbP l a).map fun r => .tup [.own 3 (r.1.map Qw), .b r.2] := by
 rcases H1, H2 with ⟨⟨rfl⟩, ⟨rfl⟩⟩
 rw [Qc]
 simp -dsimp +contextual only [↓evA, eZ, Nat.reduceAdd, Nat.reduceMul, Nat.reduceBEq, Nat.reduceLeDiff, Nat.reduceLT, Tryz.func136, Tryz.f136, QPy, QyH, srt, QeK, QgC, Qcx, QAL, Qfy, Qiw]
 try simp only [QbP, eY]
 all_goals first | rfl | (simp +contextual only [evN] <;> rfl)
theorem QjB (s b a2 a3) {R1 l R2 a} [H1 : EncL QL R1 l] [H2 : EncL QL R2 a] : LP T (n + 1) 220 3 (frm [(0, .imm 3 R1), (1, .i .i64 s), (5, .i .i64 b), (8, .imm 3 R2), (9, .i .i64 a2), (10, .i .i64 a3)]) [] =
  (run (Qa3 l s a a2) (b, a3)).map (fun (zr : Int) => (XE.exit 0, frm [(5, .i .i64 zr)], [])) := by
 rcases H1, H2 with ⟨⟨rfl⟩, ⟨rfl⟩⟩
 rw [Qn]
 simp -dsimp only [↓evA, evB, Qf, Tryz.func220, Tryz.f220, QNy, QyS, TP, TZ, Nat.reduceAdd, Nat.reduceMul, Nat.reduceBEq, Nat.reduceLeDiff, Nat.reduceLT]
 apply QD b a3
 intro b a3
 simp -dsimp +contextual only [↓evA, eZ, Nat.reduceAdd, Nat.reduceMul, Nat.reduceBEq, Nat.reduceLeDiff, Nat.reduceLT]
 try simp only [Qa3, eY]
 all_goals rfl
theorem Qnu (s) {R1 l} [H1 : EncL QL R1 l] : CP T (n + 2) 220 [.imm 3 R1, .i .i64 s] = (QdH l s).map fun r => .i .i64 r := by
 obtain ⟨rfl⟩ := H1
 rw [Qc]
 simp -dsimp +contextual only [↓evA, eZ, Nat.reduceAdd, Nat.reduceMul, Nat.reduceBEq, Nat.reduceLeDiff, Nat.reduceLT, Tryz.func220, Tryz.f220, QNy, QyS, QjB]
 try simp only [QdH, eY]
 all_goals rfl
theorem Qkk (c) {R1 a} [H1 : EncR QL R1 a] : CP T (n + 1) 203 [.agg R1, .iptr 1 [[.i .i64 c]] 0 0] = (Qc0 a c).map fun r => .b r := by
 obtain ⟨rfl⟩ := H1
 rw [Qc]
 simp -dsimp +contextual only [↓evA, eZ, Nat.reduceAdd, Nat.reduceMul, Nat.reduceBEq, Nat.reduceLeDiff, Nat.reduceLT, Tryz.func203, Tryz.f203, QRq, QEb]
 try simp only [Qc0, eY]
 all_goals rfl
theorem QaA (f a a2) {R1 s} [H1 : EncL QL R1 s] : LP T (n + 2) 202 2 (frm [(0, .imm 3 R1), (1, .clo 203 [.iptr 1 [[.i .i64 f]] 0 0]), (7, .i .i64 a), (8, .i .i64 a2)]) [] =
  VR (run (QB s f a) a2) (fun (zr : Int) => (XE.ret, frm [(4, .i .i64 zr)], [])) (fun (zr : Unit) => (XE.exit 0, frm [], [])) := by
 obtain ⟨rfl⟩ := H1
 rw [Qn]
 simp -dsimp only [↓evA, evB, Qf, Tryz.func202, Tryz.f202, QK8, Qxq, TP, TZ, Nat.reduceAdd, Nat.reduceMul, Nat.reduceBEq, Nat.reduceLeDiff, Nat.reduceLT]
 apply Ql a2
 intro a2
 simp -dsimp +contextual only [↓evA, eZ, Nat.reduceAdd, Nat.reduceMul, Nat.reduceBEq, Nat.reduceLeDiff, Nat.reduceLT, Qkk]
 try simp only [QB, eY]
 all_goals rfl
theorem Qbq (c) {R1 s} [H1 : EncL QL R1 s] : CP T (n + 3) 202 [.imm 3 R1, .clo 203 [.iptr 1 [[.i .i64 c]] 0 0]] = (Vs s c).map fun r => .i .i64 r := by
 obtain ⟨rfl⟩ := H1
 rw [Qc]
 simp -dsimp +contextual only [↓evA, eZ, Nat.reduceAdd, Nat.reduceMul, Nat.reduceBEq, Nat.reduceLeDiff, Nat.reduceLT, Tryz.func202, Tryz.f202, QK8, Qxq, QaA]
 try simp only [Vs, eY]
 all_goals rfl
theorem Zz (a) {R1 l} [H1 : EncL QL R1 l] : CP T (n + 4) 114 [.imm 3 R1, .i .i64 a] = (V0 l a).map fun r => .i .i64 r := by
 obtain ⟨rfl⟩ := H1
 rw [Qc]
 simp -dsimp +contextual only [↓evA, eZ, Nat.reduceAdd, Nat.reduceMul, Nat.reduceBEq, Nat.reduceLeDiff, Nat.reduceLT, Tryz.func114, Tryz.f114, QTI, QA4, Qbq]
 try simp only [V0, eY]
 all_goals rfl
theorem Qpz (a) {R1 l} [H1 : EncL QL R1 l] : CP T (n + 5) 234 [.imm 3 R1, .i .i64 a] = (Qdf l a).map fun r => .i .i64 r := by
 obtain ⟨rfl⟩ := H1
 rw [Qc]
 simp -dsimp +contextual only [↓evA, eZ, Nat.reduceAdd, Nat.reduceMul, Nat.reduceBEq, Nat.reduceLeDiff, Nat.reduceLT, Tryz.func234, Tryz.f234, QTV, QCJ, Zz]
 try simp only [Qdf, eY]
 all_goals rfl
theorem Qjn (a2 a3) {R1 l R2 a} [H1 : EncL QL R1 l] [H2 : EncL QL R2 a] : LP T (n + 6) 158 4 (frm [(0, .imm 3 R1), (8, .imm 3 R2), (9, .i .i64 a2), (10, .i .i64 a3)]) [] =
  VR (run (Za l a a2) a3) (fun (zr : Bool) => (XE.ret, frm [(2, .b zr)], [])) (fun (zr : Unit) => (XE.exit 0, frm [], [])) := by
 rcases H1, H2 with ⟨⟨rfl⟩, ⟨rfl⟩⟩
 rw [Qn]
 simp -dsimp only [↓evA, evB, Qf, Tryz.func158, Tryz.f158, QKq, QAg, TP, TZ, Nat.reduceAdd, Nat.reduceMul, Nat.reduceBEq, Nat.reduceLeDiff, Nat.reduceLT]
 apply Ql a3
 intro a3
 simp -dsimp +contextual only [↓evA, eZ, Nat.reduceAdd, Nat.reduceMul, Nat.reduceBEq, Nat.reduceLeDiff, Nat.reduceLT, QY, Qpz]
 try simp only [Za, eY]
 all_goals rfl
theorem QeH {R1 l} [H1 : EncL QL R1 l] : CP T (n + 7) 158 [.imm 3 R1] = (JO l).map fun r => .b r := by
 obtain ⟨rfl⟩ := H1
 rw [Qc]
 simp -dsimp +contextual only [↓evA, eZ, Nat.reduceAdd, Nat.reduceMul, Nat.reduceBEq, Nat.reduceLeDiff, Nat.reduceLT, Tryz.func158, Tryz.f158, QKq, QAg, Qjn]
 try simp only [JO, eY]
 all_goals rfl
theorem QnK {R1 l R2 a} [H1 : EncL QL R1 l] [H2 : EncR ZX R2 a] : CP T (n + 8) 137 [.imm 3 R1, .agg R2] = (QdQ l a).map fun r => .tup [.own 3 (r.1.map QL), .b r.2] := by
 rcases H1, H2 with ⟨⟨rfl⟩, ⟨rfl⟩⟩
 rw [Qc]
 simp -dsimp +contextual only [↓evA, eZ, Nat.reduceAdd, Nat.reduceMul, Nat.reduceBEq, Nat.reduceLeDiff, Nat.reduceLT, Tryz.func137, Tryz.f137, QQT, QCC, Qcu, Qnu, QeH, QeX, Zz]
 try simp only [QdQ, eY]
 all_goals first | rfl | (simp +contextual only [evN] <;> rfl)
theorem Qux (p q) : CP T (n + 2) 283 [.i .i64 p, .i .i64 q] = (QdZ p q).map fun r => .i .i64 r := by
 rw [Qc]
 simp -dsimp +contextual only [↓evA, eZ, Nat.reduceAdd, Nat.reduceMul, Nat.reduceBEq, Nat.reduceLeDiff, Nat.reduceLT, Tryz.func283, Tryz.f283, QSD, QCn, QY]
 try simp only [QdZ, eY]
 all_goals rfl
theorem Qr3 (a v) : CP T (n + 3) 274 [.i .i64 a, .i .i64 v] = (QhQ a v).map fun r => .i .i64 r := by
 rw [Qc]
 simp -dsimp +contextual only [↓evA, eZ, Nat.reduceAdd, Nat.reduceMul, Nat.reduceBEq, Nat.reduceLeDiff, Nat.reduceLT, Tryz.func274, Tryz.f274, QU4, QDH, Qux]
 try simp only [QhQ, eY]
 all_goals rfl
theorem Qn7 (a a3 a4) {R1 a2} [H1 : EncL Vg R1 a2] : LP T (n + 4) 256 3 (frm [(3, .i .i64 a), (6, .imm 1 R1), (7, .i .i64 a3), (8, .i .i64 a4)]) [] =
  (run (QdV a2 a3) (a, a4)).map (fun (zr : Int) => (XE.exit 0, frm [(3, .i .i64 zr)], [])) := by
 obtain ⟨rfl⟩ := H1
 rw [Qn]
 simp -dsimp only [↓evA, evB, Qf, Tryz.func256, Tryz.f256, QOa, Qxa, TP, TZ, Nat.reduceAdd, Nat.reduceMul, Nat.reduceBEq, Nat.reduceLeDiff, Nat.reduceLT]
 apply QD a a4
 intro a a4
 simp -dsimp +contextual only [↓evA, eZ, Nat.reduceAdd, Nat.reduceMul, Nat.reduceBEq, Nat.reduceLeDiff, Nat.reduceLT, Qr3]
 try simp only [QdV, eY]
 all_goals rfl
theorem Qmn {R1 v} [H1 : EncL Vg R1 v] : CP T (n + 5) 256 [.imm 1 R1] = (Qed v).map fun r => .i .i64 r := by
 obtain ⟨rfl⟩ := H1
 rw [Qc]
 simp -dsimp +contextual only [↓evA, eZ, Nat.reduceAdd, Nat.reduceMul, Nat.reduceBEq, Nat.reduceLeDiff, Nat.reduceLT, Tryz.func256, Tryz.f256, QOa, Qxa, Qn7]
 try simp only [Qed, eY]
 all_goals rfl
theorem QgL (b) {R1 a} [H1 : EncR Q1 R1 a] : CP T (n + 6) 221 [.i .i64 b, .agg R1] = (X4 b a).map fun r => .i .i64 r := by
 obtain ⟨rfl⟩ := H1
 rw [Qc]
 simp -dsimp +contextual only [↓evA, eZ, Nat.reduceAdd, Nat.reduceMul, Nat.reduceBEq, Nat.reduceLeDiff, Nat.reduceLT, Tryz.func221, Tryz.f221, QRi, QCv, Qmn]
 try simp only [X4, eY]
 all_goals rfl
theorem Qju (a i) {R1 l} [H1 : EncL Q1 R1 l] : LP T (n + 1) 235 2 (frm [(0, .imm 5 R1), (1, .i .i64 a), (5, .i .i64 i)]) [] =
  VR (run (Qam l a) i) (fun (zr : Int) => (XE.ret, frm [(4, .i .i64 zr)], [])) (fun (zr : Unit) => (XE.exit 0, frm [], [])) := by
 obtain ⟨rfl⟩ := H1
 rw [Qn]
 simp -dsimp only [↓evA, evB, Qf, Tryz.func235, Tryz.f235, QKm, Qym, TP, TZ, Nat.reduceAdd, Nat.reduceMul, Nat.reduceBEq, Nat.reduceLeDiff, Nat.reduceLT]
 apply Ql i
 intro i
 simp -dsimp +contextual only [↓evA, eZ, Nat.reduceAdd, Nat.reduceMul, Nat.reduceBEq, Nat.reduceLeDiff, Nat.reduceLT]
 try simp only [Qam, eY]
 all_goals rfl
theorem QgG (a) {R1 l} [H1 : EncL Q1 R1 l] : CP T (n + 2) 235 [.imm 5 R1, .i .i64 a] = (Z0 l a).map fun r => .i .i64 r := by
 obtain ⟨rfl⟩ := H1
 rw [Qc]
 simp -dsimp +contextual only [↓evA, eZ, Nat.reduceAdd, Nat.reduceMul, Nat.reduceBEq, Nat.reduceLeDiff, Nat.reduceLT, Tryz.func235, Tryz.f235, QKm, Qym, Qju]
 try simp only [Z0, eY]
 all_goals rfl
theorem QkD (a a3 a4) {R1 l R2 a2} [H1 : EncL Q1 R1 l] [H2 : EncL Q1 R2 a2] : LP T (n + 7) 160 5 (frm [(0, .imm 5 R1), (3, .i .i64 a), (10, .imm 5 R2), (11, .i .i64 a3), (12, .i .i64 a4)]) [] =
  VR (run (JB l a2 a3) (a, a4)) (fun (zr : Bool) => (XE.ret, frm [(2, .b zr)], [])) (fun (zr : Unit) => (XE.exit 0, frm [], [])) := by
 rcases H1, H2 with ⟨⟨rfl⟩, ⟨rfl⟩⟩
 rw [Qn]
 simp -dsimp only [↓evA, evB, Qf, Tryz.func160, Tryz.f160, QI1, Qzt, TP, TZ, Nat.reduceAdd, Nat.reduceMul, Nat.reduceBEq, Nat.reduceLeDiff, Nat.reduceLT]
 apply QD a a4
 intro a a4
 simp -dsimp +contextual only [↓evA, eZ, Nat.reduceAdd, Nat.reduceMul, Nat.reduceBEq, Nat.reduceLeDiff, Nat.reduceLT, QY, QgL, QgG]
 try simp only [JB, eY]
 all_goals rfl
theorem Qfc {R1 l} [H1 : EncL Q1 R1 l] : CP T (n + 8) 160 [.imm 5 R1] = (VT l).map fun r => .b r := by
 obtain ⟨rfl⟩ := H1
 rw [Qc]
 simp -dsimp +contextual only [↓evA, eZ, Nat.reduceAdd, Nat.reduceMul, Nat.reduceBEq, Nat.reduceLeDiff, Nat.reduceLT, Tryz.func160, Tryz.f160, QI1, Qzt, QkD]
 try simp only [VT, eY]
 all_goals rfl
theorem QgZ {R1 l R2 a} [H1 : EncL Q1 R1 l] [H2 : EncR Q1 R2 a] : CP T (n + 9) 138 [.imm 5 R1, .agg R2] = (Qb9 l a).map fun r => .tup [.own 5 (r.1.map Q1), .b r.2] := by
 rcases H1, H2 with ⟨⟨rfl⟩, ⟨rfl⟩⟩
 rw [Qc]
 simp -dsimp +contextual only [↓evA, eZ, Nat.reduceAdd, Nat.reduceMul, Nat.reduceBEq, Nat.reduceLeDiff, Nat.reduceLT, Tryz.func138, Tryz.f138, QSM, QDj, QgL, QeN, Qfc]
 try simp only [Qb9, eY]
 try simp only [List.contains_nil, Bool.not_false, Bool.and_true, VF, List.length_append, List.length_cons, List.length_nil, Nat.zero_add, VC, VL]
 all_goals first | rfl | (simp +contextual only [evN] <;> rfl)
theorem Qgh (v a a2) {R1 s} [H1 : EncL c_b R1 s] : LP T (n + 1) 239 2 (frm [(0, .imm 1 R1), (1, .b v), (7, .i .i64 a), (8, .i .i64 a2)]) [] =
  VR (run (Xg s v a) a2) (fun (zr : Int) => (XE.ret, frm [(4, .i .i64 zr)], [])) (fun (zr : Unit) => (XE.exit 0, frm [], [])) := by
 obtain ⟨rfl⟩ := H1
 rw [Qn]
 simp -dsimp only [↓evA, evB, Qf, Tryz.func239, Tryz.f239, QIi, Qzj, TP, TZ, Nat.reduceAdd, Nat.reduceMul, Nat.reduceBEq, Nat.reduceLeDiff, Nat.reduceLT]
 apply Ql a2
 intro a2
 simp -dsimp +contextual only [↓evA, eZ, Nat.reduceAdd, Nat.reduceMul, Nat.reduceBEq, Nat.reduceLeDiff, Nat.reduceLT]
 try simp only [Xg, eY]
 all_goals rfl
theorem Qip (v) {R1 s} [H1 : EncL c_b R1 s] : CP T (n + 2) 239 [.imm 1 R1, .b v] = (Qbt s v).map fun r => .i .i64 r := by
 obtain ⟨rfl⟩ := H1
 rw [Qc]
 simp -dsimp +contextual only [↓evA, eZ, Nat.reduceAdd, Nat.reduceMul, Nat.reduceBEq, Nat.reduceLeDiff, Nat.reduceLT, Tryz.func239, Tryz.f239, QIi, Qzj, Qgh]
 try simp only [Qbt, eY]
 all_goals rfl
theorem QaE (v) {R1 s} [H1 : EncL c_b R1 s] : CP T (n + 3) 183 [.imm 1 R1, .b v] = (VB s v).map fun r => .b r := by
 obtain ⟨rfl⟩ := H1
 rw [Qc]
 simp -dsimp +contextual only [↓evA, eZ, Nat.reduceAdd, Nat.reduceMul, Nat.reduceBEq, Nat.reduceLeDiff, Nat.reduceLT, Tryz.func183, Tryz.f183, a183, QAs, Qip]
 try simp only [VB, eY]
 all_goals rfl
theorem Qie (a3 a4 a6 a7) {R1 l R2 a R3 a2 R4 a5} [H1 : EncL Qg R1 l] [H2 : EncR Qg R2 a] [H3 : EncL Qg R3 a2] [H4 : EncL Qg R4 a5] : LP T (n + 1) 159 9 (frm [(0, .imm 5 R1), (4, .ptr 0 0 0), (10, .imm 5 R3), (11, .i .i64 a3), (12, .i .i64 a4), (62, .imm 5 R4), (63, .i .i64 a6), (64, .i .i64 a7)]) [some (Ent.box R2)] =
  VR (run (Xq l a a2 a3 a4 a5 a6) a7) (fun (zr : Bool) => (XE.ret, frm [(2, .b zr)], [])) (fun (zr : Unit) => (XE.exit 2, frm [(0, .imm 5 (l.map Qg)), (10, .imm 5 (a2.map Qg)), (11, .i .i64 a3), (12, .i .i64 a4)], [])) := by
 rcases H1, H2, H3, H4 with ⟨⟨rfl⟩, ⟨rfl⟩, ⟨rfl⟩, ⟨rfl⟩⟩
 rw [Qn]
 simp -dsimp only [↓evA, evB, Qf, Tryz.func159, Tryz.f159, QE9, QvX, TP, TZ, Nat.reduceAdd, Nat.reduceMul, Nat.reduceBEq, Nat.reduceLeDiff, Nat.reduceLT]
 apply Ql a7
 intro a7
 simp -dsimp +contextual only [↓evA, eZ, Nat.reduceAdd, Nat.reduceMul, Nat.reduceBEq, Nat.reduceLeDiff, Nat.reduceLT]
 try simp only [Xq, eY]
 all_goals rfl
end Go.Proofs.YtcdffihcfeajfaaGreat
