import Derived.Test.YtkbilciipmijjaaGreatEq2
namespace Go.Proofs.YtkbilciipmijjaaGreat
open Go Go.Proofs Go.Proofs.YtkbilciipmijjaaGreat.Am
set_option maxHeartbeats 4000000
set_option linter.unusedVariables false
set_option linter.unusedSimpArgs false
set_option linter.defProp false
set_option maxRecDepth 100000
variable (n : Nat)
theorem QiZ (a i) {R1 l R2 f} [H1 : EncL Qw R1 l] [H2 : EncR QE R2 f] : LP T (n + 1) 299 4 (frm [(1, .imm 5 R1), (2, .i .i64 a), (3, .ptr 0 0 0), (7, .i .i64 i)]) [some (Ent.box R2)] =
  Zs (run (ZO l a f) i) (fun (zr : Int) => (XE.ret, frm [(6, .i .i64 zr)], [])) (fun (zr : Unit) => (XE.exit 0, frm [(2, .i .i64 a), (3, .ptr 0 0 0)], [some (Ent.box (QE f))])) := by
 rcases H1, H2 with ⟨⟨rfl⟩, ⟨rfl⟩⟩
 rw [QA]
 simp -dsimp only [↓evA, evB, Qm, Tryz.func299, Tryz.f299, QAK, Qou, TP, TZ, Nat.reduceAdd, Nat.reduceMul, Nat.reduceBEq, Nat.reduceLeDiff, Nat.reduceLT]
 apply Qu i
 intro i
 simp -dsimp +contextual only [↓evA, eZ, Nat.reduceAdd, Nat.reduceMul, Nat.reduceBEq, Nat.reduceLeDiff, Nat.reduceLT]
 try simp only [ZO, eY]
 all_goals rfl
theorem Qgs (a) {R1 f R2 l} [H1 : EncR QE R1 f] [H2 : EncL Qw R2 l] : CP T (n + 6) 299 [.agg R1, .imm 5 R2, .i .i64 a] = (Qbt f l a).map fun r => .i .i64 r := by
 rcases H1, H2 with ⟨⟨rfl⟩, ⟨rfl⟩⟩
 rw [Qi]
 simp -dsimp +contextual only [↓evA, eZ, Nat.reduceAdd, Nat.reduceMul, Nat.reduceBEq, Nat.reduceLeDiff, Nat.reduceLT, Tryz.func299, Tryz.f299, QAK, Qou, Qc0, QnD, QiZ]
 try simp only [Qbt, eY]
 all_goals rfl
theorem Qfb (c a3 a4) {R1 a R2 a2} [H1 : EncL Vm R1 a] [H2 : EncL Vm R2 a2] : LP T (n + 2) 330 4 (frm [(0, .i .i64 c), (1, .imm 1 R1), (5, .sl 0), (6, .i .i64 a3), (7, .i .i64 a4)]) [some (Ent.lst 1 R2)] =
  Zs (run (XQ c a a2) (a3, a4)) (fun (zr : (List Int)) => (XE.ret, frm [(4, .sl 0)], [some (Ent.lst 1 (zr.map Vm))])) (fun (zr : Int) => (XE.exit 0, frm [(0, .i .i64 c), (1, .imm 1 (a.map Vm)), (5, .sl 0), (6, .i .i64 zr)], [some (Ent.lst 1 (a2.map Vm))])) := by
 rcases H1, H2 with ⟨⟨rfl⟩, ⟨rfl⟩⟩
 rw [QA]
 simp -dsimp only [↓evA, evB, Qm, Tryz.func330, Tryz.f330, QsO, Qlz, TP, TZ, Nat.reduceAdd, Nat.reduceMul, Nat.reduceBEq, Nat.reduceLeDiff, Nat.reduceLT]
 apply Vg a3 a4
 intro a3 a4
 simp -dsimp +contextual only [↓evA, eZ, Nat.reduceAdd, Nat.reduceMul, Nat.reduceBEq, Nat.reduceLeDiff, Nat.reduceLT, Ve]
 try simp only [XQ, eY]
 all_goals rfl
theorem QeW (c a3 a4 a5) {R1 a R2 a2} [H1 : EncL Vm R1 a] [H2 : EncL Vm R2 a2] : LP T (n + 1) 330 13 (frm [(0, .i .i64 c), (1, .imm 1 R1), (5, .sl 0), (6, .i .i64 a3), (8, .i .i64 a4), (9, .i .i64 a5)]) [some (Ent.lst 1 R2)] =
  (run (VP c a a3) (a2, a4, a5)).map (fun (zr : (List Int) × Int) => (XE.exit 2, frm [(5, .sl 0), (8, .i .i64 zr.2)], [some (Ent.lst 1 (zr.1.map Vm))])) := by
 rcases H1, H2 with ⟨⟨rfl⟩, ⟨rfl⟩⟩
 rw [QA]
 simp -dsimp only [↓evA, evB, Qm, Tryz.func330, Tryz.f330, QsO, Qlz, TP, TZ, Nat.reduceAdd, Nat.reduceMul, Nat.reduceBEq, Nat.reduceLeDiff, Nat.reduceLT]
 apply Qcr a2 a4 a5
 intro a2 a4 a5
 simp -dsimp +contextual only [↓evA, eZ, Nat.reduceAdd, Nat.reduceMul, Nat.reduceBEq, Nat.reduceLeDiff, Nat.reduceLT]
 try simp only [VP, eY]
 all_goals rfl
theorem QeZ (a2 a3) {R1 a} [H1 : EncL Vm R1 a] : LP T (n + 1) 330 18 (frm [(5, .sl 0), (8, .i .i64 a2), (10, .i .i64 a3)]) [some (Ent.lst 1 R1)] =
  (run (Xy a2) (a, a3)).map (fun (zr : (List Int)) => (XE.exit 4, frm [(5, .sl 0)], [some (Ent.lst 1 (zr.map Vm))])) := by
 obtain ⟨rfl⟩ := H1
 rw [QA]
 simp -dsimp only [↓evA, evB, Qm, Tryz.func330, Tryz.f330, QsO, Qlz, TP, TZ, Nat.reduceAdd, Nat.reduceMul, Nat.reduceBEq, Nat.reduceLeDiff, Nat.reduceLT]
 apply Vg a a3
 intro a a3
 simp -dsimp +contextual only [↓evA, eZ, Nat.reduceAdd, Nat.reduceMul, Nat.reduceBEq, Nat.reduceLeDiff, Nat.reduceLT]
 try simp only [Xy, eY]
 all_goals rfl
theorem Qh5 (c) {R1 a} [H1 : EncL Vm R1 a] : CP T (n + 3) 330 [.i .i64 c, .imm 1 R1] = (Z5 c a).map fun r => .own 1 (r.map Vm) := by
 obtain ⟨rfl⟩ := H1
 rw [Qi]
 simp -dsimp +contextual only [↓evA, eZ, Nat.reduceAdd, Nat.reduceMul, Nat.reduceBEq, Nat.reduceLeDiff, Nat.reduceLT, Tryz.func330, Tryz.f330, QsO, Qlz, Ve, Qfb, QeW, QeZ]
 try simp only [Z5, eY]
 all_goals first | rfl | (simp +contextual only [evN] <;> rfl)
theorem Qk3 (p f) : CP T (n + 4) 300 [.i .i64 p, .i .i64 f] = (QbL p f).map fun r => .own 2 (r.map Qi9) := by
 rw [Qi]
 simp -dsimp +contextual only [↓evA, eZ, Nat.reduceAdd, Nat.reduceMul, Nat.reduceBEq, Nat.reduceLeDiff, Nat.reduceLT, Tryz.func300, Tryz.f300, QFz, QrW, Ve, Qh5]
 try simp only [QbL, eY]
 all_goals first | rfl | (simp +contextual only [evN] <;> rfl)
theorem QjE (a2) {R1 a R2 a3} [H1 : EncR Va R1 a] [H2 : EncL Qa5 R2 a3] : CP T (n + 13) 245 [.agg R1, .i .i64 a2, .imm 3 R2] = (Qa7 a a2 a3).map fun r => .tup [.agg (JC r.1), .b r.2] := by
 rcases H1, H2 with ⟨⟨rfl⟩, ⟨rfl⟩⟩
 rw [Qi]
 simp -dsimp +contextual (maxSteps := 100000000) only [↓evA, eZ, Nat.reduceAdd, Nat.reduceMul, Nat.reduceBEq, Nat.reduceLeDiff, Nat.reduceLT, Tryz.func245, Tryz.f245, QJw, Qru, srt, JQ, QlX, ZA, Qgs, Vu, QdD, QgE, Qk3, JY]
 try simp only [Qa7, eY]
 try simp only [List.contains_nil, Bool.not_false, Bool.and_true, VB, List.length_append, List.length_cons, List.length_nil, Nat.zero_add, VN, Xc]
 all_goals rfl
theorem Qix (a2) {R1 a} [H1 : EncR Va R1 a] : CP T (n + 13) 246 [.agg R1, .i .i64 a2] = (Qav a a2).map fun r => .tup [.agg (JC r.1), .b r.2] := by
 obtain ⟨rfl⟩ := H1
 rw [Qi]
 simp -dsimp +contextual (maxSteps := 100000000) only [↓evA, eZ, Nat.reduceAdd, Nat.reduceMul, Nat.reduceBEq, Nat.reduceLeDiff, Nat.reduceLT, Tryz.func246, Tryz.f246, QKS, Qrc, srt, JQ, ZA, Vu, Qgs, QdD, JY]
 try simp only [Qav, eY]
 try simp only [List.contains_nil, Bool.not_false, Bool.and_true, VB, List.length_append, List.length_cons, List.length_nil, Nat.zero_add, VN, Xc]
 all_goals rfl
theorem QjH (a2) {R1 a} [H1 : EncR Va R1 a] : CP T (n + 13) 247 [.agg R1, .i .i64 a2] = (Qbc a a2).map fun r => .tup [.agg (JC r.1), .b r.2] := by
 obtain ⟨rfl⟩ := H1
 rw [Qi]
 simp -dsimp +contextual (maxSteps := 100000000) only [↓evA, eZ, Nat.reduceAdd, Nat.reduceMul, Nat.reduceBEq, Nat.reduceLeDiff, Nat.reduceLT, Tryz.func247, Tryz.f247, QIh, QsN, srt, Vu, Ve, JY]
 try simp only [Qbc, eY]
 all_goals rfl
theorem QhL {R1 a R2 a2} [H1 : EncR Va R1 a] [H2 : EncR QgN R2 a2] : CP T (n + 14) 170 [.agg R1, .agg R2] = (Qaf a a2).map fun r => .tup [.agg (JC r.1), .b r.2] := by
 rcases H1, H2 with ⟨⟨rfl⟩, ⟨rfl⟩⟩
 rw [Qi]
 simp -dsimp +contextual (maxSteps := 100000000) only [↓evA, eZ, Nat.reduceAdd, Nat.reduceMul, Nat.reduceBEq, Nat.reduceLeDiff, Nat.reduceLT, Tryz.func170, Tryz.f170, QEX, Qsj, QjM, Qi1, Qii, QiE, QjE, Qix, QjH, Vu]
 try simp only [Qaf, eY]
 all_goals rfl
theorem Qf5 (oxNo oxNow i) {R1 l R2 oxFinds R3 oxSecrets R4 oxSlots R5 oxClaims R6 oxTrials R7 oxChain R8 oxBook} [H1 : EncL QgN R1 l] [H2 : EncL QE R2 oxFinds] [H3 : EncL VF R3 oxSecrets] [H4 : EncL Vi R4 oxSlots] [H5 : EncL Qw R5 oxClaims] [H6 : EncL Xk R6 oxTrials] [H7 : EncL VT R7 oxChain] [H8 : EncL VO R8 oxBook] : LP T (n + 15) 101 3 (frm [(1, .imm 14 R1), (4, .ptr 0 0 0), (5, .ptr 1 0 0), (6, .i .i64 i)]) [some (Ent.box [.i .i64 0, .nil, .nil, .nil, .nil, .nil, .nil, .nil, .i .i64 0]), some (Ent.box [.i .i64 oxNo, .sl 2, .sl 3, .sl 4, .sl 5, .sl 6, .sl 7, .sl 8, .i .i64 oxNow]), some (Ent.lst 8 R2), some (Ent.lst 3 R3), some (Ent.lst 3 R4), some (Ent.lst 5 R5), some (Ent.lst 4 R6), some (Ent.lst 5 R7), some (Ent.lst 4 R8)] =
  (run (VS l) ((⟨oxNo, oxFinds, oxSecrets, oxSlots, oxClaims, oxTrials, oxChain, oxBook, oxNow⟩ : House), i)).map (fun (zr : House) => (XE.exit 0, frm [(4, .ptr 0 0 0), (5, .ptr 1 0 0)], [some (Ent.box [.i .i64 0, .nil, .nil, .nil, .nil, .nil, .nil, .nil, .i .i64 0]), some (Ent.box [.i .i64 zr.No, .sl 2, .sl 3, .sl 4, .sl 5, .sl 6, .sl 7, .sl 8, .i .i64 zr.Now]), some (Ent.lst 8 (zr.Finds.map QE)), some (Ent.lst 3 (zr.Secrets.map VF)), some (Ent.lst 3 (zr.Slots.map Vi)), some (Ent.lst 5 (zr.Claims.map Qw)), some (Ent.lst 4 (zr.Trials.map Xk)), some (Ent.lst 5 (zr.Chain.map VT)), some (Ent.lst 4 (zr.Book.map VO))])) := by
 rcases H1, H2, H3, H4, H5, H6, H7, H8 with ⟨⟨rfl⟩, ⟨rfl⟩, ⟨rfl⟩, ⟨rfl⟩, ⟨rfl⟩, ⟨rfl⟩, ⟨rfl⟩, ⟨rfl⟩⟩
 rw [QA]
 simp -dsimp only [↓evA, evB, Qm, Tryz.func101, Tryz.f101, QAe, QoG, TP, TZ, Nat.reduceAdd, Nat.reduceMul, Nat.reduceBEq, Nat.reduceLeDiff, Nat.reduceLT]
 refine run_map (fun (zs : House × Int) => (frm [(1, .imm 14 (l.map QgN)), (4, .ptr 0 0 0), (5, .ptr 1 0 0), (6, .i .i64 zs.2)], [some (Ent.box [.i .i64 0, .nil, .nil, .nil, .nil, .nil, .nil, .nil, .i .i64 0]), some (Ent.box [.i .i64 zs.1.No, .sl 2, .sl 3, .sl 4, .sl 5, .sl 6, .sl 7, .sl 8, .i .i64 zs.1.Now]), some (Ent.lst 8 (zs.1.Finds.map QE)), some (Ent.lst 3 (zs.1.Secrets.map VF)), some (Ent.lst 3 (zs.1.Slots.map Vi)), some (Ent.lst 5 (zs.1.Claims.map Qw)), some (Ent.lst 4 (zs.1.Trials.map Xk)), some (Ent.lst 5 (zs.1.Chain.map VT)), some (Ent.lst 4 (zs.1.Book.map VO))])) _ ?_ ((⟨oxNo, oxFinds, oxSecrets, oxSlots, oxClaims, oxTrials, oxChain, oxBook, oxNow⟩ : House), i)
 rintro ⟨o, i⟩
 simp -dsimp +contextual (maxSteps := 100000000) only [↓evA, eZ, Nat.reduceAdd, Nat.reduceMul, Nat.reduceBEq, Nat.reduceLeDiff, Nat.reduceLT, QhL]
 try simp only [VS, eY]
 all_goals rfl
theorem Qja {R1 a R2 l} [H1 : EncR Va R1 a] [H2 : EncL QgN R2 l] : CP T (n + 16) 101 [.agg R1, .imm 14 R2] = (QaB a l).map fun r => .agg (JC r) := by
 rcases H1, H2 with ⟨⟨rfl⟩, ⟨rfl⟩⟩
 rw [Qi]
 simp -dsimp +contextual (maxSteps := 100000000) only [↓evA, eZ, Nat.reduceAdd, Nat.reduceMul, Nat.reduceBEq, Nat.reduceLeDiff, Nat.reduceLT, Tryz.func101, Tryz.f101, QAe, QoG, Vu, Qf5]
 try simp only [QaB, eY]
 all_goals rfl
theorem QkS {R1 c} [H1 : EncR QM R1 c] : CA T (n + 17) 99 [some (Ent.box R1)] [.ptr 0 0 0] = (QbJ c).map fun r => (.agg [.i .i64 r.2.No, .sl 1, .sl 2, .sl 3, .sl 4, .sl 5, .sl 6, .sl 7, .i .i64 r.2.Now], [some (Ent.box (QM r.1)), some (Ent.lst 8 (r.2.Finds.map QE)), some (Ent.lst 3 (r.2.Secrets.map VF)), some (Ent.lst 3 (r.2.Slots.map Vi)), some (Ent.lst 5 (r.2.Claims.map Qw)), some (Ent.lst 4 (r.2.Trials.map Xk)), some (Ent.lst 5 (r.2.Chain.map VT)), some (Ent.lst 4 (r.2.Book.map VO))]) := by
 obtain ⟨rfl⟩ := H1
 rw [QbA]
 simp -dsimp +contextual (maxSteps := 100000000) only [↓evA, eZ, Nat.reduceAdd, Nat.reduceMul, Nat.reduceBEq, Nat.reduceLeDiff, Nat.reduceLT, Tryz.func99, Tryz.f99, QNB, Qzw, srt, QjI, QkG, Qja, QS, QcZ, QfF, QeE]
 try simp only [QbJ, eY]
 all_goals rfl
theorem QlH (a) {R1 c} [H1 : EncR QM R1 c] : CA T (n + 3) 76 [some (Ent.box R1)] [.ptr 0 0 0, .i .i64 a] = (Qcs c a).map fun r => (.b r.2, [some (Ent.box (QM r.1))]) := by
 obtain ⟨rfl⟩ := H1
 rw [QbA]
 simp -dsimp +contextual (maxSteps := 100000000) only [↓evA, eZ, Nat.reduceAdd, Nat.reduceMul, Nat.reduceBEq, Nat.reduceLeDiff, Nat.reduceLT, Tryz.func76, Tryz.f76, QO5, Qyl, srt, QS]
 try simp only [Qcs, eY]
 all_goals rfl
theorem Qdf (axNo axNow i) {R1 c R2 axFinds R3 axSecrets R4 axSlots R5 axClaims R6 axTrials R7 axChain R8 axBook} [H1 : EncR QM R1 c] [H2 : EncL QE R2 axFinds] [H3 : EncL VF R3 axSecrets] [H4 : EncL Vi R4 axSlots] [H5 : EncL Qw R5 axClaims] [H6 : EncL Xk R6 axTrials] [H7 : EncL VT R7 axChain] [H8 : EncL VO R8 axBook] : LP T (n + 4) 36 4 (frm [(2, .ptr 0 0 0), (3, .ptr 1 0 0), (4, .ptr 2 0 0), (5, .i .i64 i)]) [some (Ent.box [.i .i64 0, .nil, .nil, .nil, .nil, .nil, .nil, .nil, .i .i64 0]), some (Ent.box R1), some (Ent.box [.i .i64 axNo, .sl 3, .sl 4, .sl 5, .sl 6, .sl 7, .sl 8, .sl 9, .i .i64 axNow]), some (Ent.lst 8 R2), some (Ent.lst 3 R3), some (Ent.lst 3 R4), some (Ent.lst 5 R5), some (Ent.lst 4 R6), some (Ent.lst 5 R7), some (Ent.lst 4 R8)] =
  (run Vl (c, (⟨axNo, axFinds, axSecrets, axSlots, axClaims, axTrials, axChain, axBook, axNow⟩ : House), i)).map (fun (zr : House) => (XE.exit 0, frm [(2, .ptr 0 0 0), (4, .ptr 1 0 0)], [some (Ent.box [.i .i64 0, .nil, .nil, .nil, .nil, .nil, .nil, .nil, .i .i64 0]), some (Ent.box [.i .i64 zr.No, .sl 2, .sl 3, .sl 4, .sl 5, .sl 6, .sl 7, .sl 8, .i .i64 zr.Now]), some (Ent.lst 8 (zr.Finds.map QE)), some (Ent.lst 3 (zr.Secrets.map VF)), some (Ent.lst 3 (zr.Slots.map Vi)), some (Ent.lst 5 (zr.Claims.map Qw)), some (Ent.lst 4 (zr.Trials.map Xk)), some (Ent.lst 5 (zr.Chain.map VT)), some (Ent.lst 4 (zr.Book.map VO))])) := by
 rcases H1, H2, H3, H4, H5, H6, H7, H8 with ⟨⟨rfl⟩, ⟨rfl⟩, ⟨rfl⟩, ⟨rfl⟩, ⟨rfl⟩, ⟨rfl⟩, ⟨rfl⟩, ⟨rfl⟩⟩
 rw [QA]
 simp -dsimp only [↓evA, evB, Qm, Tryz.func36, Tryz.f36, QFX, Qvf, TP, TZ, Nat.reduceAdd, Nat.reduceMul, Nat.reduceBEq, Nat.reduceLeDiff, Nat.reduceLT]
 refine run_map (fun (zs : l1Cur × House × Int) => (frm [(2, .ptr 0 0 0), (3, .ptr 1 0 0), (4, .ptr 2 0 0), (5, .i .i64 zs.2.2)], [some (Ent.box [.i .i64 0, .nil, .nil, .nil, .nil, .nil, .nil, .nil, .i .i64 0]), some (Ent.box (QM zs.1)), some (Ent.box [.i .i64 zs.2.1.No, .sl 3, .sl 4, .sl 5, .sl 6, .sl 7, .sl 8, .sl 9, .i .i64 zs.2.1.Now]), some (Ent.lst 8 (zs.2.1.Finds.map QE)), some (Ent.lst 3 (zs.2.1.Secrets.map VF)), some (Ent.lst 3 (zs.2.1.Slots.map Vi)), some (Ent.lst 5 (zs.2.1.Claims.map Qw)), some (Ent.lst 4 (zs.2.1.Trials.map Xk)), some (Ent.lst 5 (zs.2.1.Chain.map VT)), some (Ent.lst 4 (zs.2.1.Book.map VO))])) _ ?_ (c, (⟨axNo, axFinds, axSecrets, axSlots, axClaims, axTrials, axChain, axBook, axNow⟩ : House), i)
 rintro ⟨c, a, i⟩
 simp -dsimp +contextual (maxSteps := 100000000) only [↓evA, eZ, Nat.reduceAdd, Nat.reduceMul, Nat.reduceBEq, Nat.reduceLeDiff, Nat.reduceLT, srt, QlH]
 try simp only [Vl, eY]
 all_goals rfl
theorem Qej {R1 c} [H1 : EncL QaD R1 c] : CP T (n + 18) 36 [.imm 1 R1] = (Xi c).map fun r => .agg (JC r) := by
 obtain ⟨rfl⟩ := H1
 rw [Qi]
 simp -dsimp +contextual only [↓evA, eZ, Nat.reduceAdd, Nat.reduceMul, Nat.reduceBEq, Nat.reduceLeDiff, Nat.reduceLT, Tryz.func36, Tryz.f36, QFX, Qvf, srt, QeD, QkS, Qdf]
 try simp only [Xi, eY]
 all_goals rfl
theorem Qic (i) {R1 c R2 l} [H1 : EncR QM R1 c] [H2 : EncL Qw R2 l] : LP T (n + 5) 237 3 (frm [(0, .ptr 0 0 0), (3, .sl 1), (4, .i .i64 i)]) [some (Ent.box R1), some (Ent.lst 5 R2)] =
  (run J4 (c, l, i)).map (fun (zr : l1Cur × (List Claim)) => (XE.exit 0, frm [(0, .ptr 0 0 0), (3, .sl 1)], [some (Ent.box (QM zr.1)), some (Ent.lst 5 (zr.2.map Qw))])) := by
 rcases H1, H2 with ⟨⟨rfl⟩, ⟨rfl⟩⟩
 rw [QA]
 simp -dsimp only [↓evA, evB, Qm, Tryz.func237, Tryz.f237, QAE, QpG, TP, TZ, Nat.reduceAdd, Nat.reduceMul, Nat.reduceBEq, Nat.reduceLeDiff, Nat.reduceLT]
 apply Qcr c l i
 intro c l i
 simp -dsimp +contextual only [↓evA, eZ, Nat.reduceAdd, Nat.reduceMul, Nat.reduceBEq, Nat.reduceLeDiff, Nat.reduceLT, srt, QS, QeQ, QeK]
 try simp only [J4, eY]
 all_goals rfl
theorem Qle {R1 c} [H1 : EncR QM R1 c] : CA T (n + 6) 237 [some (Ent.box R1)] [.ptr 0 0 0] = (QbG c).map fun r => (.sl 1, [some (Ent.box (QM r.1)), some (Ent.lst 5 (r.2.map Qw))]) := by
 obtain ⟨rfl⟩ := H1
 rw [QbA]
 simp -dsimp +contextual (maxSteps := 100000000) only [↓evA, eZ, Nat.reduceAdd, Nat.reduceMul, Nat.reduceBEq, Nat.reduceLeDiff, Nat.reduceLT, Tryz.func237, Tryz.f237, QAE, QpG, srt, Qic]
 try simp only [QbG, eY]
 all_goals rfl
theorem QlP {R1 c} [H1 : EncR QM R1 c] : CA T (n + 7) 154 [some (Ent.box R1)] [.ptr 0 0 0] = (Qcp c).map fun r => (.sl 1, [some (Ent.box (QM r.1)), some (Ent.lst 5 (r.2.map Qw))]) := by
 obtain ⟨rfl⟩ := H1
 rw [QbA]
 simp -dsimp +contextual (maxSteps := 100000000) only [↓evA, eZ, Nat.reduceAdd, Nat.reduceMul, Nat.reduceBEq, Nat.reduceLeDiff, Nat.reduceLT, Tryz.func154, Tryz.f154, QIB, Qrj, srt, Qle, QS, Jk, Qel]
 try simp only [Qcp, eY]
 all_goals rfl
theorem Qfa {R1 c} [H1 : EncL QaD R1 c] : CP T (n + 8) 100 [.imm 1 R1] = (ZU c).map fun r => .own 5 (r.map Qw) := by
 obtain ⟨rfl⟩ := H1
 rw [Qi]
 simp -dsimp +contextual only [↓evA, eZ, Nat.reduceAdd, Nat.reduceMul, Nat.reduceBEq, Nat.reduceLeDiff, Nat.reduceLT, Tryz.func100, Tryz.f100, QKn, Qsk, srt, QeD, QlP]
 try simp only [ZU, eY]
 all_goals first | rfl | (simp +contextual only [evN] <;> rfl)
theorem QeY {R1 c} [H1 : EncL QaD R1 c] : CP T (n + 9) 37 [.imm 1 R1] = (Xw c).map fun r => .own 5 (r.map Qw) := by
 obtain ⟨rfl⟩ := H1
 rw [Qi]
 simp -dsimp +contextual only [↓evA, eZ, Nat.reduceAdd, Nat.reduceMul, Nat.reduceBEq, Nat.reduceLeDiff, Nat.reduceLT, Tryz.func37, Tryz.f37, QMw, Qxn, Qfa]
 try simp only [Xw, eY]
 all_goals first | rfl | (simp +contextual only [evN] <;> rfl)
theorem Qe1 (a2 a4 a5) {R1 a R2 a3} [H1 : EncR Va R1 a] [H2 : EncL Qw R2 a3] : LP T (n + 1) 38 5 (frm [(1, .ptr 0 0 0), (3, .i .i64 a2), (11, .imm 5 R2), (12, .i .i64 a4), (13, .i .i64 a5)]) [some (Ent.box R1)] =
  (run (Xv a a3 a4) (a2, a5)).map (fun (zr : Int) => (XE.exit 0, frm [(1, .ptr 0 0 0), (3, .i .i64 zr)], [some (Ent.box (Va a))])) := by
 rcases H1, H2 with ⟨⟨rfl⟩, ⟨rfl⟩⟩
 rw [QA]
 simp -dsimp only [↓evA, evB, Qm, Tryz.func38, Tryz.f38, QJI, QvD, TP, TZ, Nat.reduceAdd, Nat.reduceMul, Nat.reduceBEq, Nat.reduceLeDiff, Nat.reduceLT]
 apply Vg a2 a5
 intro a2 a5
 simp -dsimp +contextual (maxSteps := 100000000) only [↓evA, eZ, Nat.reduceAdd, Nat.reduceMul, Nat.reduceBEq, Nat.reduceLeDiff, Nat.reduceLT]
 try simp only [Xv, eY]
 all_goals rfl
theorem Qhb {R1 a} [H1 : EncR Va R1 a] : CP T (n + 2) 38 [.agg R1] = (JP a).map fun r => .i .i64 r := by
 obtain ⟨rfl⟩ := H1
 rw [Qi]
 simp -dsimp +contextual (maxSteps := 100000000) only [↓evA, eZ, Nat.reduceAdd, Nat.reduceMul, Nat.reduceBEq, Nat.reduceLeDiff, Nat.reduceLT, Tryz.func38, Tryz.f38, QJI, QvD, Qe1]
 try simp only [JP, eY]
 all_goals rfl
theorem QhM (a a3 a4) {R1 a2} [H1 : EncL QE R1 a2] : LP T (n + 1) 39 3 (frm [(3, .i .i64 a), (6, .imm 8 R1), (7, .i .i64 a3), (8, .i .i64 a4)]) [] =
  (run (Jl a2 a3) (a, a4)).map (fun (zr : Int) => (XE.exit 0, frm [(3, .i .i64 zr)], [])) := by
 obtain ⟨rfl⟩ := H1
 rw [QA]
 simp -dsimp only [↓evA, evB, Qm, Tryz.func39, Tryz.f39, QLD, Qu9, TP, TZ, Nat.reduceAdd, Nat.reduceMul, Nat.reduceBEq, Nat.reduceLeDiff, Nat.reduceLT]
 apply Vg a a4
 intro a a4
 simp -dsimp +contextual only [↓evA, eZ, Nat.reduceAdd, Nat.reduceMul, Nat.reduceBEq, Nat.reduceLeDiff, Nat.reduceLT]
 try simp only [Jl, eY]
 all_goals rfl
theorem QkN {R1 l} [H1 : EncL QE R1 l] : CP T (n + 2) 39 [.imm 8 R1] = (X2 l).map fun r => .i .i64 r := by
 obtain ⟨rfl⟩ := H1
 rw [Qi]
 simp -dsimp +contextual only [↓evA, eZ, Nat.reduceAdd, Nat.reduceMul, Nat.reduceBEq, Nat.reduceLeDiff, Nat.reduceLT, Tryz.func39, Tryz.f39, QLD, Qu9, QhM]
 try simp only [X2, eY]
 all_goals rfl
theorem Qfh (a a3 a4) {R1 a2} [H1 : EncL Qw R1 a2] : LP T (n + 1) 40 3 (frm [(3, .i .i64 a), (6, .imm 5 R1), (7, .i .i64 a3), (8, .i .i64 a4)]) [] =
  (run (XT a2 a3) (a, a4)).map (fun (zr : Int) => (XE.exit 0, frm [(3, .i .i64 zr)], [])) := by
 obtain ⟨rfl⟩ := H1
 rw [QA]
 simp -dsimp only [↓evA, evB, Qm, Tryz.func40, Tryz.f40, QLp, Qub, TP, TZ, Nat.reduceAdd, Nat.reduceMul, Nat.reduceBEq, Nat.reduceLeDiff, Nat.reduceLT]
 apply Vg a a4
 intro a a4
 simp -dsimp +contextual only [↓evA, eZ, Nat.reduceAdd, Nat.reduceMul, Nat.reduceBEq, Nat.reduceLeDiff, Nat.reduceLT]
 try simp only [XT, eY]
 all_goals rfl
theorem Qh6 {R1 l} [H1 : EncL Qw R1 l] : CP T (n + 2) 40 [.imm 5 R1] = (VI l).map fun r => .i .i64 r := by
 obtain ⟨rfl⟩ := H1
 rw [Qi]
 simp -dsimp +contextual only [↓evA, eZ, Nat.reduceAdd, Nat.reduceMul, Nat.reduceBEq, Nat.reduceLeDiff, Nat.reduceLT, Tryz.func40, Tryz.f40, QLp, Qub, Qfh]
 try simp only [VI, eY]
 all_goals rfl
theorem QgR (a2 a3) {R1 l R2 a} [H1 : EncL Xt R1 l] [H2 : EncL Xt R2 a] : LP T (n + 2) 135 4 (frm [(0, .imm 2 R1), (8, .imm 2 R2), (9, .i .i64 a2), (10, .i .i64 a3)]) [] =
  Zs (run (JV l a a2) a3) (fun (zr : Bool) => (XE.ret, frm [(2, .b zr)], [])) (fun (zr : Unit) => (XE.exit 0, frm [], [])) := by
 rcases H1, H2 with ⟨⟨rfl⟩, ⟨rfl⟩⟩
 rw [QA]
 simp -dsimp only [↓evA, evB, Qm, Tryz.func135, Tryz.f135, QzM, Qot, TP, TZ, Nat.reduceAdd, Nat.reduceMul, Nat.reduceBEq, Nat.reduceLeDiff, Nat.reduceLT]
 apply Qu a3
 intro a3
 simp -dsimp +contextual only [↓evA, eZ, Nat.reduceAdd, Nat.reduceMul, Nat.reduceBEq, Nat.reduceLeDiff, Nat.reduceLT, VD]
 try simp only [JV, eY]
 all_goals rfl
theorem QeR {R1 l} [H1 : EncL Xt R1 l] : CP T (n + 3) 135 [.imm 2 R1] = (Zt l).map fun r => .b r := by
 obtain ⟨rfl⟩ := H1
 rw [Qi]
 simp -dsimp +contextual only [↓evA, eZ, Nat.reduceAdd, Nat.reduceMul, Nat.reduceBEq, Nat.reduceLeDiff, Nat.reduceLT, Tryz.func135, Tryz.f135, QzM, Qot, QgR]
 try simp only [Zt, eY]
 all_goals rfl
theorem Qfq (a2 a3) {R1 l R2 a} [H1 : EncL VA R1 l] [H2 : EncL VA R2 a] : LP T (n + 4) 60 4 (frm [(0, .imm 3 R1), (8, .imm 3 R2), (9, .i .i64 a2), (10, .i .i64 a3)]) [] =
  Zs (run (XM l a a2) a3) (fun (zr : Bool) => (XE.ret, frm [(2, .b zr)], [])) (fun (zr : Unit) => (XE.exit 0, frm [], [])) := by
 rcases H1, H2 with ⟨⟨rfl⟩, ⟨rfl⟩⟩
 rw [QA]
 simp -dsimp only [↓evA, evB, Qm, Tryz.func60, Tryz.f60, QE3, Qvv, TP, TZ, Nat.reduceAdd, Nat.reduceMul, Nat.reduceBEq, Nat.reduceLeDiff, Nat.reduceLT]
 apply Qu a3
 intro a3
 simp -dsimp +contextual only [↓evA, eZ, Nat.reduceAdd, Nat.reduceMul, Nat.reduceBEq, Nat.reduceLeDiff, Nat.reduceLT, VD, QeR]
 try simp only [XM, eY]
 all_goals rfl
theorem QhP {R1 l} [H1 : EncL VA R1 l] : CP T (n + 5) 60 [.imm 3 R1] = (Jj l).map fun r => .b r := by
 obtain ⟨rfl⟩ := H1
 rw [Qi]
 simp -dsimp +contextual only [↓evA, eZ, Nat.reduceAdd, Nat.reduceMul, Nat.reduceBEq, Nat.reduceLeDiff, Nat.reduceLT, Tryz.func60, Tryz.f60, QE3, Qvv, Qfq]
 try simp only [Jj, eY]
 all_goals rfl
theorem Qhi (c) {R1 a} [H1 : EncR Vi R1 a] : CP T (n + 1) 141 [.agg R1, .iptr 1 [[.i .i64 c]] 0 0] = (Qbh a c).map fun r => .b r := by
 obtain ⟨rfl⟩ := H1
 rw [Qi]
 simp -dsimp +contextual only [↓evA, eZ, Nat.reduceAdd, Nat.reduceMul, Nat.reduceBEq, Nat.reduceLeDiff, Nat.reduceLT, Tryz.func141, Tryz.f141, QJL, QsE]
 try simp only [Qbh, eY]
 all_goals rfl
theorem ZP (f a a2) {R1 s} [H1 : EncL Vi R1 s] : LP T (n + 2) 140 2 (frm [(0, .imm 3 R1), (1, .clo 141 [.iptr 1 [[.i .i64 f]] 0 0]), (7, .i .i64 a), (8, .i .i64 a2)]) [] =
  Zs (run (Qt s f a) a2) (fun (zr : Int) => (XE.ret, frm [(4, .i .i64 zr)], [])) (fun (zr : Unit) => (XE.exit 0, frm [], [])) := by
 obtain ⟨rfl⟩ := H1
 rw [QA]
 simp -dsimp only [↓evA, evB, Qm, Tryz.func140, Tryz.f140, QzO, QoV, TP, TZ, Nat.reduceAdd, Nat.reduceMul, Nat.reduceBEq, Nat.reduceLeDiff, Nat.reduceLT]
 apply Qu a2
 intro a2
 simp -dsimp +contextual only [↓evA, eZ, Nat.reduceAdd, Nat.reduceMul, Nat.reduceBEq, Nat.reduceLeDiff, Nat.reduceLT, Qhi]
 try simp only [Qt, eY]
 all_goals rfl
theorem Qaj (c) {R1 s} [H1 : EncL Vi R1 s] : CP T (n + 3) 140 [.imm 3 R1, .clo 141 [.iptr 1 [[.i .i64 c]] 0 0]] = (Vd s c).map fun r => .i .i64 r := by
 obtain ⟨rfl⟩ := H1
 rw [Qi]
 simp -dsimp +contextual only [↓evA, eZ, Nat.reduceAdd, Nat.reduceMul, Nat.reduceBEq, Nat.reduceLeDiff, Nat.reduceLT, Tryz.func140, Tryz.f140, QzO, QoV, ZP]
 try simp only [Vd, eY]
 all_goals rfl
theorem QeH (a) {R1 l} [H1 : EncL Vi R1 l] : CP T (n + 4) 68 [.imm 3 R1, .i .i64 a] = (VU l a).map fun r => .i .i64 r := by
 obtain ⟨rfl⟩ := H1
 rw [Qi]
 simp -dsimp +contextual only [↓evA, eZ, Nat.reduceAdd, Nat.reduceMul, Nat.reduceBEq, Nat.reduceLeDiff, Nat.reduceLT, Tryz.func68, Tryz.f68, QNe, Qyj, Qaj]
 try simp only [VU, eY]
 all_goals rfl
theorem QlR (a) {R1 l} [H1 : EncL Vi R1 l] : CP T (n + 5) 80 [.imm 3 R1, .i .i64 a] = (Qby l a).map fun r => .i .i64 r := by
 obtain ⟨rfl⟩ := H1
 rw [Qi]
 simp -dsimp +contextual only [↓evA, eZ, Nat.reduceAdd, Nat.reduceMul, Nat.reduceBEq, Nat.reduceLeDiff, Nat.reduceLT, Tryz.func80, Tryz.f80, QPG, QyP, QeH]
 try simp only [Qby, eY]
 all_goals rfl
theorem QgP (a2 a3) {R1 l R2 a} [H1 : EncL Vi R1 l] [H2 : EncL Vi R2 a] : LP T (n + 6) 18 4 (frm [(0, .imm 3 R1), (8, .imm 3 R2), (9, .i .i64 a2), (10, .i .i64 a3)]) [] =
  Zs (run (JU l a a2) a3) (fun (zr : Bool) => (XE.ret, frm [(2, .b zr)], [])) (fun (zr : Unit) => (XE.exit 0, frm [], [])) := by
 rcases H1, H2 with ⟨⟨rfl⟩, ⟨rfl⟩⟩
 rw [QA]
 simp -dsimp only [↓evA, evB, Qm, Tryz.func18, Tryz.f18, QGo, QwV, TP, TZ, Nat.reduceAdd, Nat.reduceMul, Nat.reduceBEq, Nat.reduceLeDiff, Nat.reduceLT]
 apply Qu a3
 intro a3
 simp -dsimp +contextual only [↓evA, eZ, Nat.reduceAdd, Nat.reduceMul, Nat.reduceBEq, Nat.reduceLeDiff, Nat.reduceLT, VD, QlR]
 try simp only [JU, eY]
 all_goals rfl
theorem Qjt {R1 l} [H1 : EncL Vi R1 l] : CP T (n + 7) 18 [.imm 3 R1] = (JI l).map fun r => .b r := by
 obtain ⟨rfl⟩ := H1
 rw [Qi]
 simp -dsimp +contextual only [↓evA, eZ, Nat.reduceAdd, Nat.reduceMul, Nat.reduceBEq, Nat.reduceLeDiff, Nat.reduceLT, Tryz.func18, Tryz.f18, QGo, QwV, QgP]
 try simp only [JI, eY]
 all_goals rfl
theorem Qgp (a3 a4 a6 a7) {R1 l R2 a R3 a2 R4 a5} [H1 : EncL Qw R1 l] [H2 : EncR Qw R2 a] [H3 : EncL Qw R3 a2] [H4 : EncL Qw R4 a5] : LP T (n + 1) 61 9 (frm [(0, .imm 5 R1), (4, .ptr 0 0 0), (10, .imm 5 R3), (11, .i .i64 a3), (12, .i .i64 a4), (62, .imm 5 R4), (63, .i .i64 a6), (64, .i .i64 a7)]) [some (Ent.box R2)] =
  Zs (run (Xq l a a2 a3 a4 a5 a6) a7) (fun (zr : Bool) => (XE.ret, frm [(2, .b zr)], [])) (fun (zr : Unit) => (XE.exit 2, frm [(0, .imm 5 (l.map Qw)), (10, .imm 5 (a2.map Qw)), (11, .i .i64 a3), (12, .i .i64 a4)], [])) := by
 rcases H1, H2, H3, H4 with ⟨⟨rfl⟩, ⟨rfl⟩, ⟨rfl⟩, ⟨rfl⟩⟩
 rw [QA]
 simp -dsimp only [↓evA, evB, Qm, Tryz.func61, Tryz.f61, QDq, QtP, TP, TZ, Nat.reduceAdd, Nat.reduceMul, Nat.reduceBEq, Nat.reduceLeDiff, Nat.reduceLT]
 apply Qu a7
 intro a7
 simp -dsimp +contextual only [↓evA, eZ, Nat.reduceAdd, Nat.reduceMul, Nat.reduceBEq, Nat.reduceLeDiff, Nat.reduceLT]
 try simp only [Xq, eY]
 all_goals rfl
theorem Qgc (a2 a3) {R1 l R2 a} [H1 : EncL Qw R1 l] [H2 : EncL Qw R2 a] : LP T (n + 2) 61 4 (frm [(0, .imm 5 R1), (10, .imm 5 R2), (11, .i .i64 a2), (12, .i .i64 a3)]) [] =
  Zs (run (Jc l a a2) a3) (fun (zr : Bool) => (XE.ret, frm [(2, .b zr)], [])) (fun (zr : Unit) => (XE.exit 0, frm [], [])) := by
 rcases H1, H2 with ⟨⟨rfl⟩, ⟨rfl⟩⟩
 rw [QA]
 simp -dsimp only [↓evA, evB, Qm, Tryz.func61, Tryz.f61, QDq, QtP, TP, TZ, Nat.reduceAdd, Nat.reduceMul, Nat.reduceBEq, Nat.reduceLeDiff, Nat.reduceLT]
 apply Qu a3
 intro a3
 simp -dsimp +contextual only [↓evA, eZ, Nat.reduceAdd, Nat.reduceMul, Nat.reduceBEq, Nat.reduceLeDiff, Nat.reduceLT, VD, Qgp]
 try simp only [Jc, eY]
 all_goals rfl
theorem Qiy {R1 l} [H1 : EncL Qw R1 l] : CP T (n + 3) 61 [.imm 5 R1] = (VX l).map fun r => .b r := by
 obtain ⟨rfl⟩ := H1
 rw [Qi]
 simp -dsimp +contextual only [↓evA, eZ, Nat.reduceAdd, Nat.reduceMul, Nat.reduceBEq, Nat.reduceLeDiff, Nat.reduceLT, Tryz.func61, Tryz.f61, QDq, QtP, Qgc]
 try simp only [VX, eY]
 all_goals rfl
theorem Qqr (p q) : CP T (n + 2) 322 [.i .i64 p, .i .i64 q] = (QbK p q).map fun r => .i .i64 r := by
 rw [Qi]
 simp -dsimp +contextual only [↓evA, eZ, Nat.reduceAdd, Nat.reduceMul, Nat.reduceBEq, Nat.reduceLeDiff, Nat.reduceLT, Tryz.func322, Tryz.f322, QJG, Qsu, VD]
 try simp only [QbK, eY]
 all_goals rfl
theorem Qpm (a v) : CP T (n + 3) 276 [.i .i64 a, .i .i64 v] = (QfU a v).map fun r => .i .i64 r := by
 rw [Qi]
 simp -dsimp +contextual only [↓evA, eZ, Nat.reduceAdd, Nat.reduceMul, Nat.reduceBEq, Nat.reduceLeDiff, Nat.reduceLT, Tryz.func276, Tryz.f276, QId, QrT, Qqr]
 try simp only [QfU, eY]
 all_goals rfl
theorem Qku (a a3 a4) {R1 a2} [H1 : EncL Vm R1 a2] : LP T (n + 4) 217 3 (frm [(3, .i .i64 a), (6, .imm 1 R1), (7, .i .i64 a3), (8, .i .i64 a4)]) [] =
  (run (QbS a2 a3) (a, a4)).map (fun (zr : Int) => (XE.exit 0, frm [(3, .i .i64 zr)], [])) := by
 obtain ⟨rfl⟩ := H1
 rw [QA]
 simp -dsimp only [↓evA, evB, Qm, Tryz.func217, Tryz.f217, Qz9, Qoj, TP, TZ, Nat.reduceAdd, Nat.reduceMul, Nat.reduceBEq, Nat.reduceLeDiff, Nat.reduceLT]
 apply Vg a a4
 intro a a4
 simp -dsimp +contextual only [↓evA, eZ, Nat.reduceAdd, Nat.reduceMul, Nat.reduceBEq, Nat.reduceLeDiff, Nat.reduceLT, Qpm]
 try simp only [QbS, eY]
 all_goals rfl
theorem QpQ {R1 v} [H1 : EncL Vm R1 v] : CP T (n + 5) 217 [.imm 1 R1] = (Qca v).map fun r => .i .i64 r := by
 obtain ⟨rfl⟩ := H1
 rw [Qi]
 simp -dsimp +contextual only [↓evA, eZ, Nat.reduceAdd, Nat.reduceMul, Nat.reduceBEq, Nat.reduceLeDiff, Nat.reduceLT, Tryz.func217, Tryz.f217, Qz9, Qoj, Qku]
 try simp only [Qca, eY]
 all_goals rfl
theorem Qjw (b) {R1 a} [H1 : EncR VT R1 a] : CP T (n + 6) 136 [.i .i64 b, .agg R1] = (X0 b a).map fun r => .i .i64 r := by
 obtain ⟨rfl⟩ := H1
 rw [Qi]
 simp -dsimp +contextual only [↓evA, eZ, Nat.reduceAdd, Nat.reduceMul, Nat.reduceBEq, Nat.reduceLeDiff, Nat.reduceLT, Tryz.func136, Tryz.f136, QIa, QsW, QpQ]
 try simp only [X0, eY]
 all_goals rfl
theorem Qg7 (a i) {R1 l} [H1 : EncL VT R1 l] : LP T (n + 1) 67 2 (frm [(0, .imm 5 R1), (1, .i .i64 a), (5, .i .i64 i)]) [] =
  Zs (run (ZJ l a) i) (fun (zr : Int) => (XE.ret, frm [(4, .i .i64 zr)], [])) (fun (zr : Unit) => (XE.exit 0, frm [], [])) := by
 obtain ⟨rfl⟩ := H1
 rw [QA]
 simp -dsimp only [↓evA, evB, Qm, Tryz.func67, Tryz.f67, QJV, Qw9, TP, TZ, Nat.reduceAdd, Nat.reduceMul, Nat.reduceBEq, Nat.reduceLeDiff, Nat.reduceLT]
 apply Qu i
 intro i
 simp -dsimp +contextual only [↓evA, eZ, Nat.reduceAdd, Nat.reduceMul, Nat.reduceBEq, Nat.reduceLeDiff, Nat.reduceLT]
 try simp only [ZJ, eY]
 all_goals rfl
theorem QeJ (a) {R1 l} [H1 : EncL VT R1 l] : CP T (n + 2) 67 [.imm 5 R1, .i .i64 a] = (Zp l a).map fun r => .i .i64 r := by
 obtain ⟨rfl⟩ := H1
 rw [Qi]
 simp -dsimp +contextual only [↓evA, eZ, Nat.reduceAdd, Nat.reduceMul, Nat.reduceBEq, Nat.reduceLeDiff, Nat.reduceLT, Tryz.func67, Tryz.f67, QJV, Qw9, Qg7]
 try simp only [Zp, eY]
 all_goals rfl
theorem Qhg (a a3 a4) {R1 l R2 a2} [H1 : EncL VT R1 l] [H2 : EncL VT R2 a2] : LP T (n + 7) 62 5 (frm [(0, .imm 5 R1), (3, .i .i64 a), (10, .imm 5 R2), (11, .i .i64 a3), (12, .i .i64 a4)]) [] =
  Zs (run (Jo l a2 a3) (a, a4)) (fun (zr : Bool) => (XE.ret, frm [(2, .b zr)], [])) (fun (zr : Unit) => (XE.exit 0, frm [], [])) := by
 rcases H1, H2 with ⟨⟨rfl⟩, ⟨rfl⟩⟩
 rw [QA]
 simp -dsimp only [↓evA, evB, Qm, Tryz.func62, Tryz.f62, QKB, Quy, TP, TZ, Nat.reduceAdd, Nat.reduceMul, Nat.reduceBEq, Nat.reduceLeDiff, Nat.reduceLT]
 apply Vg a a4
 intro a a4
 simp -dsimp +contextual only [↓evA, eZ, Nat.reduceAdd, Nat.reduceMul, Nat.reduceBEq, Nat.reduceLeDiff, Nat.reduceLT, VD, Qjw, QeJ]
 try simp only [Jo, eY]
 all_goals rfl
theorem Qfp {R1 l} [H1 : EncL VT R1 l] : CP T (n + 8) 62 [.imm 5 R1] = (VM l).map fun r => .b r := by
 obtain ⟨rfl⟩ := H1
 rw [Qi]
 simp -dsimp +contextual only [↓evA, eZ, Nat.reduceAdd, Nat.reduceMul, Nat.reduceBEq, Nat.reduceLeDiff, Nat.reduceLT, Tryz.func62, Tryz.f62, QKB, Quy, Qhg]
 try simp only [VM, eY]
 all_goals rfl
theorem QfE (a2 a3) {R1 l R2 a} [H1 : EncL VO R1 l] [H2 : EncL VO R2 a] : LP T (n + 2) 63 4 (frm [(0, .imm 4 R1), (8, .imm 4 R2), (9, .i .i64 a2), (10, .i .i64 a3)]) [] =
  Zs (run (XL l a a2) a3) (fun (zr : Bool) => (XE.ret, frm [(2, .b zr)], [])) (fun (zr : Unit) => (XE.exit 0, frm [], [])) := by
 rcases H1, H2 with ⟨⟨rfl⟩, ⟨rfl⟩⟩
 rw [QA]
 simp -dsimp only [↓evA, evB, Qm, Tryz.func63, Tryz.f63, QHv, Qv8, TP, TZ, Nat.reduceAdd, Nat.reduceMul, Nat.reduceBEq, Nat.reduceLeDiff, Nat.reduceLT]
 apply Qu a3
 intro a3
 simp -dsimp +contextual only [↓evA, eZ, Nat.reduceAdd, Nat.reduceMul, Nat.reduceBEq, Nat.reduceLeDiff, Nat.reduceLT, VD]
 try simp only [XL, eY]
 all_goals rfl
theorem Qin {R1 l} [H1 : EncL VO R1 l] : CP T (n + 3) 63 [.imm 4 R1] = (Jr l).map fun r => .b r := by
 obtain ⟨rfl⟩ := H1
 rw [Qi]
 simp -dsimp +contextual only [↓evA, eZ, Nat.reduceAdd, Nat.reduceMul, Nat.reduceBEq, Nat.reduceLeDiff, Nat.reduceLT, Tryz.func63, Tryz.f63, QHv, Qv8, QfE]
 try simp only [Jr, eY]
 all_goals rfl
theorem QhW (a a3 a4) {R1 l R2 o R3 a2} [H1 : EncL VT R1 l] [H2 : EncL Vm R2 o] [H3 : EncL VT R3 a2] : LP T (n + 3) 23 5 (frm [(0, .imm 5 R1), (1, .i .i64 a), (5, .sl 0), (13, .imm 5 R3), (14, .i .i64 a3), (15, .i .i64 a4)]) [some (Ent.lst 1 R2)] =
  (run (Za l a a2 a3) (o, a4)).map (fun (zr : (List Int)) => (XE.exit 0, frm [(5, .sl 0)], [some (Ent.lst 1 (zr.map Vm))])) := by
 rcases H1, H2, H3 with ⟨⟨rfl⟩, ⟨rfl⟩, ⟨rfl⟩⟩
 rw [QA]
 simp -dsimp only [↓evA, evB, Qm, Tryz.func23, Tryz.f23, QIW, Qv0, TP, TZ, Nat.reduceAdd, Nat.reduceMul, Nat.reduceBEq, Nat.reduceLeDiff, Nat.reduceLT]
 apply Vg o a4
 intro o a4
 simp -dsimp +contextual only [↓evA, eZ, Nat.reduceAdd, Nat.reduceMul, Nat.reduceBEq, Nat.reduceLeDiff, Nat.reduceLT, srt, QeJ]
 try simp only [Za, eY]
 all_goals rfl
theorem Qk2 (a) {R1 l} [H1 : EncL VT R1 l] : CP T (n + 9) 23 [.imm 5 R1, .i .i64 a] = (QaP l a).map fun r => .own 1 (r.map Vm) := by
 obtain ⟨rfl⟩ := H1
 rw [Qi]
 simp -dsimp +contextual only [↓evA, eZ, Nat.reduceAdd, Nat.reduceMul, Nat.reduceBEq, Nat.reduceLeDiff, Nat.reduceLT, Tryz.func23, Tryz.f23, QIW, Qv0, srt, Qfp, QhW]
 try simp only [QaP, eY]
 all_goals first | rfl | (simp +contextual only [evN] <;> rfl)
theorem QeT (v a a2) {R1 s} [H1 : EncL Vm R1 s] : LP T (n + 1) 142 2 (frm [(0, .imm 1 R1), (1, .i .i64 v), (7, .i .i64 a), (8, .i .i64 a2)]) [] =
  Zs (run (Xx s v a) a2) (fun (zr : Int) => (XE.ret, frm [(4, .i .i64 zr)], [])) (fun (zr : Unit) => (XE.exit 0, frm [], [])) := by
 obtain ⟨rfl⟩ := H1
 rw [QA]
 simp -dsimp only [↓evA, evB, Qm, Tryz.func142, Tryz.f142, QAd, Qpf, TP, TZ, Nat.reduceAdd, Nat.reduceMul, Nat.reduceBEq, Nat.reduceLeDiff, Nat.reduceLT]
 apply Qu a2
 intro a2
 simp -dsimp +contextual only [↓evA, eZ, Nat.reduceAdd, Nat.reduceMul, Nat.reduceBEq, Nat.reduceLeDiff, Nat.reduceLT]
 try simp only [Xx, eY]
 all_goals rfl
theorem QgW (v) {R1 s} [H1 : EncL Vm R1 s] : CP T (n + 2) 142 [.imm 1 R1, .i .i64 v] = (QaY s v).map fun r => .i .i64 r := by
 obtain ⟨rfl⟩ := H1
 rw [Qi]
 simp -dsimp +contextual only [↓evA, eZ, Nat.reduceAdd, Nat.reduceMul, Nat.reduceBEq, Nat.reduceLeDiff, Nat.reduceLT, Tryz.func142, Tryz.f142, QAd, Qpf, QeT]
 try simp only [QaY, eY]
 all_goals rfl
theorem Qe0 (v) {R1 s} [H1 : EncL Vm R1 s] : CP T (n + 3) 69 [.imm 1 R1, .i .i64 v] = (Jx s v).map fun r => .b r := by
 obtain ⟨rfl⟩ := H1
 rw [Qi]
 simp -dsimp +contextual only [↓evA, eZ, Nat.reduceAdd, Nat.reduceMul, Nat.reduceBEq, Nat.reduceLeDiff, Nat.reduceLT, Tryz.func69, Tryz.f69, QNU, QyA, QgW]
 try simp only [Jx, eY]
 all_goals rfl
theorem QhR (a4 a5) {R1 a R2 a2 R3 a3} [H1 : EncR Va R1 a] [H2 : EncL Vm R2 a2] [H3 : EncL QE R3 a3] : LP T (n + 5) 64 5 (frm [(1, .ptr 0 0 0), (3, .sl 1), (23, .imm 8 R3), (24, .i .i64 a4), (25, .i .i64 a5)]) [some (Ent.box R1), some (Ent.lst 1 R2)] =
  Zs (run (XA a a2 a3 a4) a5) (fun (zr : Bool) => (XE.ret, frm [(2, .b zr)], [])) (fun (zr : Unit) => (XE.exit 0, frm [(1, .ptr 0 0 0), (3, .sl 1)], [some (Ent.box (Va a)), some (Ent.lst 1 (a2.map Vm))])) := by
 rcases H1, H2, H3 with ⟨⟨rfl⟩, ⟨rfl⟩, ⟨rfl⟩⟩
 rw [QA]
 simp -dsimp only [↓evA, evB, Qm, Tryz.func64, Tryz.f64, Qyh, Qp4, TP, TZ, Nat.reduceAdd, Nat.reduceMul, Nat.reduceBEq, Nat.reduceLeDiff, Nat.reduceLT]
 apply Qu a5
 intro a5
 simp -dsimp +contextual (maxSteps := 100000000) only [↓evA, eZ, Nat.reduceAdd, Nat.reduceMul, Nat.reduceBEq, Nat.reduceLeDiff, Nat.reduceLT, QeH, Qe0]
 try simp only [XA, eY]
 all_goals rfl
theorem QgO (a4 a5) {R1 a R2 a2 R3 a3} [H1 : EncR Va R1 a] [H2 : EncL Vm R2 a2] [H3 : EncL Vi R3 a3] : LP T (n + 5) 64 11 (frm [(1, .ptr 0 0 0), (3, .sl 1), (57, .imm 3 R3), (58, .i .i64 a4), (59, .i .i64 a5)]) [some (Ent.box R1), some (Ent.lst 1 R2)] =
  Zs (run (VK a a2 a3 a4) a5) (fun (zr : Bool) => (XE.ret, frm [(2, .b zr)], [])) (fun (zr : Unit) => (XE.exit 2, frm [(1, .ptr 0 0 0), (3, .sl 1)], [some (Ent.box (Va a)), some (Ent.lst 1 (a2.map Vm))])) := by
 rcases H1, H2, H3 with ⟨⟨rfl⟩, ⟨rfl⟩, ⟨rfl⟩⟩
 rw [QA]
 simp -dsimp only [↓evA, evB, Qm, Tryz.func64, Tryz.f64, Qyh, Qp4, TP, TZ, Nat.reduceAdd, Nat.reduceMul, Nat.reduceBEq, Nat.reduceLeDiff, Nat.reduceLT]
 apply Qu a5
 intro a5
 simp -dsimp +contextual (maxSteps := 100000000) only [↓evA, eZ, Nat.reduceAdd, Nat.reduceMul, Nat.reduceBEq, Nat.reduceLeDiff, Nat.reduceLT, QaF]
 try simp only [VK, eY]
 all_goals rfl
theorem QgJ (a3 a4) {R1 a R2 a2} [H1 : EncR Va R1 a] [H2 : EncL Vm R2 a2] : LP T (n + 5) 64 17 (frm [(1, .ptr 0 0 0), (75, .sl 1), (76, .i .i64 a3), (77, .i .i64 a4)]) [some (Ent.box R1), some (Ent.lst 1 R2)] =
  Zs (run (JO a a2 a3) a4) (fun (zr : Bool) => (XE.ret, frm [(2, .b zr)], [])) (fun (zr : Unit) => (XE.exit 4, frm [], [])) := by
 rcases H1, H2 with ⟨⟨rfl⟩, ⟨rfl⟩⟩
 rw [QA]
 simp -dsimp only [↓evA, evB, Qm, Tryz.func64, Tryz.f64, Qyh, Qp4, TP, TZ, Nat.reduceAdd, Nat.reduceMul, Nat.reduceBEq, Nat.reduceLeDiff, Nat.reduceLT]
 apply Qu a4
 intro a4
 simp -dsimp +contextual (maxSteps := 100000000) only [↓evA, eZ, Nat.reduceAdd, Nat.reduceMul, Nat.reduceBEq, Nat.reduceLeDiff, Nat.reduceLT, QaF]
 try simp only [JO, eY]
 all_goals rfl
theorem Qkx {R1 a} [H1 : EncR Va R1 a] : CP T (n + 10) 64 [.agg R1] = (JB a).map fun r => .b r := by
 obtain ⟨rfl⟩ := H1
 rw [Qi]
 simp -dsimp +contextual (maxSteps := 100000000) only [↓evA, eZ, Nat.reduceAdd, Nat.reduceMul, Nat.reduceBEq, Nat.reduceLeDiff, Nat.reduceLT, Tryz.func64, Tryz.f64, Qyh, Qp4, Qk2, QhR, QgO, QgJ]
 try simp only [JB, eY]
 all_goals rfl
theorem Qfe {R1 a} [H1 : EncR Xk R1 a] : CP T (n + 2) 137 [.agg R1] = (QaQ a).map fun r => .b r := by
 obtain ⟨rfl⟩ := H1
 rw [Qi]
 simp -dsimp +contextual only [↓evA, eZ, Nat.reduceAdd, Nat.reduceMul, Nat.reduceBEq, Nat.reduceLeDiff, Nat.reduceLT, Tryz.func137, Tryz.f137, QGv, Qre, VD]
 try simp only [QaQ, eY]
 all_goals rfl
theorem Qhp (c) {R1 a} [H1 : EncR VA R1 a] : CP T (n + 1) 216 [.agg R1, .iptr 1 [[.i .i64 c]] 0 0] = (Z6 a c).map fun r => .b r := by
 obtain ⟨rfl⟩ := H1
 rw [Qi]
 simp -dsimp +contextual only [↓evA, eZ, Nat.reduceAdd, Nat.reduceMul, Nat.reduceBEq, Nat.reduceLeDiff, Nat.reduceLT, Tryz.func216, Tryz.f216, QGy, Qr3]
 try simp only [Z6, eY]
 all_goals rfl
theorem Zv (f a a2) {R1 s} [H1 : EncL VA R1 s] : LP T (n + 2) 215 2 (frm [(0, .imm 3 R1), (1, .clo 216 [.iptr 1 [[.i .i64 f]] 0 0]), (7, .i .i64 a), (8, .i .i64 a2)]) [] =
  Zs (run (Qh s f a) a2) (fun (zr : Int) => (XE.ret, frm [(4, .i .i64 zr)], [])) (fun (zr : Unit) => (XE.exit 0, frm [], [])) := by
 obtain ⟨rfl⟩ := H1
 rw [QA]
 simp -dsimp only [↓evA, evB, Qm, Tryz.func215, Tryz.f215, QzW, QnU, TP, TZ, Nat.reduceAdd, Nat.reduceMul, Nat.reduceBEq, Nat.reduceLeDiff, Nat.reduceLT]
 apply Qu a2
 intro a2
 simp -dsimp +contextual only [↓evA, eZ, Nat.reduceAdd, Nat.reduceMul, Nat.reduceBEq, Nat.reduceLeDiff, Nat.reduceLT, Qhp]
 try simp only [Qh, eY]
 all_goals rfl
theorem ZV (c) {R1 s} [H1 : EncL VA R1 s] : CP T (n + 3) 215 [.imm 3 R1, .clo 216 [.iptr 1 [[.i .i64 c]] 0 0]] = (QJ s c).map fun r => .i .i64 r := by
 obtain ⟨rfl⟩ := H1
 rw [Qi]
 simp -dsimp +contextual only [↓evA, eZ, Nat.reduceAdd, Nat.reduceMul, Nat.reduceBEq, Nat.reduceLeDiff, Nat.reduceLT, Tryz.func215, Tryz.f215, QzW, QnU, Zv]
 try simp only [QJ, eY]
 all_goals rfl
theorem QjC (a) {R1 l} [H1 : EncL VA R1 l] : CP T (n + 4) 133 [.imm 3 R1, .i .i64 a] = (JG l a).map fun r => .i .i64 r := by
 obtain ⟨rfl⟩ := H1
 rw [Qi]
 simp -dsimp +contextual only [↓evA, eZ, Nat.reduceAdd, Nat.reduceMul, Nat.reduceBEq, Nat.reduceLeDiff, Nat.reduceLT, Tryz.func133, Tryz.f133, QJl, QrI, ZV]
 try simp only [JG, eY]
 all_goals rfl
theorem Qgk {R1 s} [H1 : EncL Xt R1 s] : CP T (n + 1) 134 [.imm 2 R1] = (VQ s).map fun r => .own 2 (r.map Xt) := by
 obtain ⟨rfl⟩ := H1
 rw [Qi]
 simp -dsimp +contextual only [↓evA, eZ, Nat.reduceAdd, Nat.reduceMul, Nat.reduceBEq, Nat.reduceLeDiff, Nat.reduceLT, Tryz.func134, Tryz.f134, QFi, Qsy]
 try simp only [VQ, eY]
 all_goals first | rfl | (simp +contextual only [evN] <;> rfl)
theorem Qky (a) {R1 l} [H1 : EncL VA R1 l] : CP T (n + 5) 57 [.imm 3 R1, .i .i64 a] = (QaO l a).map fun r => .own 2 (r.map Xt) := by
 obtain ⟨rfl⟩ := H1
 rw [Qi]
 simp -dsimp +contextual only [↓evA, eZ, Nat.reduceAdd, Nat.reduceMul, Nat.reduceBEq, Nat.reduceLeDiff, Nat.reduceLT, Tryz.func57, Tryz.f57, QOr, Qzf, QjC, Qgk]
 try simp only [QaO, eY]
 all_goals first | rfl | (simp +contextual only [evN] <;> rfl)
theorem Qlx {R1 l} [H1 : EncL Xt R1 l] : CP T (n + 1) 56 [.imm 2 R1] = (QaX l).map fun r => .i .i64 r := by
 obtain ⟨rfl⟩ := H1
 rw [Qi]
 simp -dsimp +contextual only [↓evA, eZ, Nat.reduceAdd, Nat.reduceMul, Nat.reduceBEq, Nat.reduceLeDiff, Nat.reduceLT, Tryz.func56, Tryz.f56, QNS, Qzo]
 try simp only [QaX, eY]
 all_goals rfl
end Go.Proofs.YtkbilciipmijjaaGreat
