import Derived.Test.YtncpklppoancgaaGreatEc
namespace Go.Proofs.YtncpklppoancgaaGreat
open Go Go.Proofs Go.Proofs.YtncpklppoancgaaGreat.Am
set_option maxHeartbeats 4000000
set_option linter.unusedVariables false
set_option linter.unusedSimpArgs false
set_option linter.defProp false
set_option maxRecDepth 100000
variable (n : Nat)
theorem QoY {R1 c} [H1 : EncL QaQ R1 c] : CP T (n + 1) 5 [.imm 1 R1] = (QfB c).map fun r => .b r := by
 obtain ⟨rfl⟩ := H1
 rw [Qk]
 simp -dsimp +contextual only [↓evA, eZ, Nat.reduceAdd, Nat.reduceMul, Nat.reduceBEq, Nat.reduceLeDiff, Nat.reduceLT, Tryz.func5, Tryz.f5, Aa5, An5]
 try simp only [QfB, eY]
 all_goals rfl
theorem Qhm (a i) {R1 c} [H1 : EncL QaQ R1 c] : LP T (n + 1) 36 3 (frm [(0, .imm 1 R1), (3, .i .i64 a), (4, .i .i64 i)]) [] =
  (run (XM c) (a, i)).map (fun (zr : Int) => (XE.exit 0, frm [(0, .imm 1 (c.map QaQ)), (3, .i .i64 zr)], [])) := by
 obtain ⟨rfl⟩ := H1
 rw [QA]
 simp -dsimp only [↓evA, evB, Qm, Tryz.func36, Tryz.f36, QGy, QrW, TP, TZ, Nat.reduceAdd, Nat.reduceMul, Nat.reduceBEq, Nat.reduceLeDiff, Nat.reduceLT]
 apply VV a i
 intro a i
 simp -dsimp +contextual only [↓evA, eZ, Nat.reduceAdd, Nat.reduceMul, Nat.reduceBEq, Nat.reduceLeDiff, Nat.reduceLT]
 try simp only [XM, eY]
 all_goals rfl
theorem Qbx {R1 c} [H1 : EncL QaQ R1 c] : CA T (n + 2) 36 [] [.imm 1 R1] = (ZE c).map fun r => (.ptr 0 0 0, [some (Ent.box (Qo r))]) := by
 obtain ⟨rfl⟩ := H1
 rw [Zh]
 simp -dsimp +contextual (maxSteps := 100000000) only [↓evA, eZ, Nat.reduceAdd, Nat.reduceMul, Nat.reduceBEq, Nat.reduceLeDiff, Nat.reduceLT, Tryz.func36, Tryz.f36, QGy, QrW, Qhm]
 try simp only [ZE, eY]
 all_goals rfl
theorem Qjz {R1 c} [H1 : EncR Qo R1 c] : CA T (n + 1) 116 [some (Ent.box R1)] [.ptr 0 0 0] = (J1 c).map fun r => (.i .i64 r.2, [some (Ent.box (Qo r.1))]) := by
 obtain ⟨rfl⟩ := H1
 rw [Zh]
 simp -dsimp +contextual (maxSteps := 100000000) only [↓evA, eZ, Nat.reduceAdd, Nat.reduceMul, Nat.reduceBEq, Nat.reduceLeDiff, Nat.reduceLT, Tryz.func116, Tryz.f116, QFB, Qo3]
 try simp only [J1, eY]
 all_goals rfl
theorem Qg (a) {R1 c} [H1 : EncR Qo R1 c] : CA T (n + 2) 57 [some (Ent.box R1)] [.ptr 0 0 0, .i .i64 a] = (Qb c a).map fun r => (.i .i64 r.2, [some (Ent.box (Qo r.1))]) := by
 obtain ⟨rfl⟩ := H1
 rw [Zh]
 simp -dsimp +contextual (maxSteps := 100000000) only [↓evA, eZ, Nat.reduceAdd, Nat.reduceMul, Nat.reduceBEq, Nat.reduceLeDiff, Nat.reduceLT, Tryz.func57, Tryz.f57, QM8, QvA, srt, Qjz]
 try simp only [Qb, eY]
 all_goals rfl
theorem Q4 {R1 c R2 l} [H1 : EncR Qo R1 c] [H2 : EncL Vj R2 l] : CA T (n + 3) 37 [some (Ent.box R1), some (Ent.lst 1 R2)] [.ptr 0 0 0, .sl 1] = (Qj c l).map fun r => (.i .i64 r.2, [some (Ent.box (Qo r.1)), some (Ent.lst 1 (l.map Vj))]) := by
 rcases H1, H2 with ⟨⟨rfl⟩, ⟨rfl⟩⟩
 rw [Zh]
 simp -dsimp +contextual (maxSteps := 100000000) only [↓evA, eZ, Nat.reduceAdd, Nat.reduceMul, Nat.reduceBEq, Nat.reduceLeDiff, Nat.reduceLT, Tryz.func37, Tryz.f37, QJc, QwH, srt, Qg]
 try simp only [Qj, eY]
 all_goals rfl
theorem Qjq (a) {R1 c} [H1 : EncR Qo R1 c] : CA T (n + 3) 38 [some (Ent.box R1)] [.ptr 0 0 0, .i .i64 a] = (Qbm c a).map fun r => (.b r.2, [some (Ent.box (Qo r.1))]) := by
 obtain ⟨rfl⟩ := H1
 rw [Zh]
 simp -dsimp +contextual (maxSteps := 100000000) only [↓evA, eZ, Nat.reduceAdd, Nat.reduceMul, Nat.reduceBEq, Nat.reduceLeDiff, Nat.reduceLT, Tryz.func38, Tryz.f38, QMQ, Qwr, srt, Qg]
 try simp only [Qbm, eY]
 all_goals rfl
theorem Qcb (i) {R1 c} [H1 : EncR Qo R1 c] : CA T (n + 3) 128 [some (Ent.box R1)] [.ptr 0 0 0, .i .i64 i] = (ZB c i).map fun r => (.agg (QbH r.2), [some (Ent.box (Qo r.1))]) := by
 obtain ⟨rfl⟩ := H1
 rw [Zh]
 simp -dsimp +contextual (maxSteps := 100000000) only [↓evA, eZ, Nat.reduceAdd, Nat.reduceMul, Nat.reduceBEq, Nat.reduceLeDiff, Nat.reduceLT, Tryz.func128, Tryz.f128, QCC, QpD, srt, Qg]
 try simp only [ZB, eY]
 all_goals rfl
theorem QcW (s k i) {R1 l} [H1 : EncL QV R1 l] : LP T (n + 1) 225 3 (frm [(0, .imm 3 R1), (1, .i .i64 s), (5, .i .i64 k), (6, .i .i64 i)]) [] =
  (run (QG l s) (k, i)).map (fun (zr : Int) => (XE.exit 0, frm [(0, .imm 3 (l.map QV)), (5, .i .i64 zr)], [])) := by
 obtain ⟨rfl⟩ := H1
 rw [QA]
 simp -dsimp only [↓evA, evB, Qm, Tryz.func225, Tryz.f225, QxY, Qmt, TP, TZ, Nat.reduceAdd, Nat.reduceMul, Nat.reduceBEq, Nat.reduceLeDiff, Nat.reduceLT]
 apply VV k i
 intro k i
 simp -dsimp +contextual only [↓evA, eZ, Nat.reduceAdd, Nat.reduceMul, Nat.reduceBEq, Nat.reduceLeDiff, Nat.reduceLT]
 try simp only [QG, eY]
 all_goals rfl
theorem Qer (s) {R1 l} [H1 : EncL QV R1 l] : CP T (n + 2) 225 [.imm 3 R1, .i .i64 s] = (Jp l s).map fun r => .i .i64 r := by
 obtain ⟨rfl⟩ := H1
 rw [Qk]
 simp -dsimp +contextual only [↓evA, eZ, Nat.reduceAdd, Nat.reduceMul, Nat.reduceBEq, Nat.reduceLeDiff, Nat.reduceLT, Tryz.func225, Tryz.f225, QxY, Qmt, QcW]
 try simp only [Jp, eY]
 all_goals rfl
theorem Xi (a l m) : CP T (n + 1) 193 [.i .i64 a, .i .i64 l, .i .i64 m] = (Qe a l m).map fun r => .b r := by
 rw [Qk]
 simp -dsimp +contextual only [↓evA, eZ, Nat.reduceAdd, Nat.reduceMul, Nat.reduceBEq, Nat.reduceLeDiff, Nat.reduceLT, Tryz.func193, Tryz.f193, QDk, Qo1]
 try simp only [Qe, eY]
 all_goals rfl
theorem QeY (i k) {R1 l} [H1 : EncL QV R1 l] : LP T (n + 1) 226 7 (frm [(0, .imm 3 R1), (3, .i .i64 i), (4, .i .i64 k)]) [] =
  X7 (run (V6 l i) k) (fun (zr : Bool) => (XE.ret, frm [(2, .b zr)], [])) (fun (zr : Unit) => (XE.exit 2, frm [(0, .imm 3 (l.map QV)), (3, .i .i64 i)], [])) := by
 obtain ⟨rfl⟩ := H1
 rw [QA]
 simp -dsimp only [↓evA, evB, Qm, Tryz.func226, Tryz.f226, Qub, Qki, TP, TZ, Nat.reduceAdd, Nat.reduceMul, Nat.reduceBEq, Nat.reduceLeDiff, Nat.reduceLT]
 apply Qq k
 intro k
 simp -dsimp +contextual only [↓evA, eZ, Nat.reduceAdd, Nat.reduceMul, Nat.reduceBEq, Nat.reduceLeDiff, Nat.reduceLT]
 try simp only [V6, eY]
 all_goals rfl
theorem QeT (i) {R1 l} [H1 : EncL QV R1 l] : LP T (n + 2) 226 2 (frm [(0, .imm 3 R1), (3, .i .i64 i)]) [] =
  X7 (run (Vk l) i) (fun (zr : Bool) => (XE.ret, frm [(2, .b zr)], [])) (fun (zr : Unit) => (XE.exit 0, frm [(0, .imm 3 (l.map QV))], [])) := by
 obtain ⟨rfl⟩ := H1
 rw [QA]
 simp -dsimp only [↓evA, evB, Qm, Tryz.func226, Tryz.f226, Qub, Qki, TP, TZ, Nat.reduceAdd, Nat.reduceMul, Nat.reduceBEq, Nat.reduceLeDiff, Nat.reduceLT]
 apply Qq i
 intro i
 simp -dsimp +contextual only [↓evA, eZ, Nat.reduceAdd, Nat.reduceMul, Nat.reduceBEq, Nat.reduceLeDiff, Nat.reduceLT, Xi, QeY]
 try simp only [Vk, eY]
 all_goals rfl
theorem Qda {R1 l} [H1 : EncL QV R1 l] : CP T (n + 3) 226 [.imm 3 R1] = (XN l).map fun r => .b r := by
 obtain ⟨rfl⟩ := H1
 rw [Qk]
 simp -dsimp +contextual only [↓evA, eZ, Nat.reduceAdd, Nat.reduceMul, Nat.reduceBEq, Nat.reduceLeDiff, Nat.reduceLT, Tryz.func226, Tryz.f226, Qub, Qki, QeT]
 try simp only [XN, eY]
 all_goals rfl
theorem QdL {R1 a} [H1 : EncR QbH R1 a] : CP T (n + 2) 227 [.agg R1] = (J8 a).map fun r => .b r := by
 obtain ⟨rfl⟩ := H1
 rw [Qk]
 simp -dsimp +contextual only [↓evA, eZ, Nat.reduceAdd, Nat.reduceMul, Nat.reduceBEq, Nat.reduceLeDiff, Nat.reduceLT, Tryz.func227, Tryz.f227, QDP, Qpz, Xi]
 try simp only [J8, eY]
 all_goals rfl
theorem Qgk (a i) {R1 l} [H1 : EncL QV R1 l] : LP T (n + 1) 192 2 (frm [(0, .imm 3 R1), (1, .i .i64 a), (5, .i .i64 i)]) [] =
  X7 (run (VR l a) i) (fun (zr : Int) => (XE.ret, frm [(4, .i .i64 zr)], [])) (fun (zr : Unit) => (XE.exit 0, frm [], [])) := by
 obtain ⟨rfl⟩ := H1
 rw [QA]
 simp -dsimp only [↓evA, evB, Qm, Tryz.func192, Tryz.f192, Qx3, Qnh, TP, TZ, Nat.reduceAdd, Nat.reduceMul, Nat.reduceBEq, Nat.reduceLeDiff, Nat.reduceLT]
 apply Qq i
 intro i
 simp -dsimp +contextual only [↓evA, eZ, Nat.reduceAdd, Nat.reduceMul, Nat.reduceBEq, Nat.reduceLeDiff, Nat.reduceLT]
 try simp only [VR, eY]
 all_goals rfl
theorem QeK (a) {R1 l} [H1 : EncL QV R1 l] : CP T (n + 2) 192 [.imm 3 R1, .i .i64 a] = (JZ l a).map fun r => .i .i64 r := by
 obtain ⟨rfl⟩ := H1
 rw [Qk]
 simp -dsimp +contextual only [↓evA, eZ, Nat.reduceAdd, Nat.reduceMul, Nat.reduceBEq, Nat.reduceLeDiff, Nat.reduceLT, Tryz.func192, Tryz.f192, Qx3, Qnh, Qgk]
 try simp only [JZ, eY]
 all_goals rfl
theorem Qgi (s i) {R1 a R2 o} [H1 : EncR QbH R1 a] [H2 : EncL QV R2 o] : LP T (n + 1) 165 6 (frm [(3, .ptr 0 0 0), (6, .sl 1), (7, .i .i64 s), (8, .i .i64 i)]) [some (Ent.box R1), some (Ent.lst 3 R2)] =
  (run (Va a s) (o, i)).map (fun (zr : (List Slot)) => (XE.exit 0, frm [(6, .sl 0)], [some (Ent.lst 3 (zr.map QV))])) := by
 rcases H1, H2 with ⟨⟨rfl⟩, ⟨rfl⟩⟩
 rw [QA]
 simp -dsimp only [↓evA, evB, Qm, Tryz.func165, Tryz.f165, QxJ, Qnn, TP, TZ, Nat.reduceAdd, Nat.reduceMul, Nat.reduceBEq, Nat.reduceLeDiff, Nat.reduceLT]
 apply VV o i
 intro o i
 simp -dsimp +contextual only [↓evA, eZ, Nat.reduceAdd, Nat.reduceMul, Nat.reduceBEq, Nat.reduceLeDiff, Nat.reduceLT]
 try simp only [Va, eY]
 all_goals rfl
theorem QhT {R1 l R2 a} [H1 : EncL QV R1 l] [H2 : EncR QbH R2 a] : CP T (n + 4) 165 [.imm 3 R1, .agg R2] = (Jt l a).map fun r => .tup [.own 3 (r.1.map QV), .b r.2] := by
 rcases H1, H2 with ⟨⟨rfl⟩, ⟨rfl⟩⟩
 rw [Qk]
 simp -dsimp +contextual only [↓evA, eZ, Nat.reduceAdd, Nat.reduceMul, Nat.reduceBEq, Nat.reduceLeDiff, Nat.reduceLT, Tryz.func165, Tryz.f165, QxJ, Qnn, Qer, Qda, QdL, QeK, Qgi]
 try simp only [Jt, eY]
 all_goals first | rfl | (simp +contextual only [evN] <;> rfl)
theorem Qfz (i) {R1 c R2 l} [H1 : EncR Qo R1 c] [H2 : EncL QV R2 l] : LP T (n + 3) 97 3 (frm [(0, .ptr 0 0 0), (3, .sl 1), (4, .i .i64 i)]) [some (Ent.box R1), some (Ent.lst 3 R2)] =
  (run Jj (c, l, i)).map (fun (zr : l1Cur × (List Slot)) => (XE.exit 0, frm [(0, .ptr 0 0 0), (3, .sl 1)], [some (Ent.box (Qo zr.1)), some (Ent.lst 3 (zr.2.map QV))])) := by
 rcases H1, H2 with ⟨⟨rfl⟩, ⟨rfl⟩⟩
 rw [QA]
 simp -dsimp only [↓evA, evB, Qm, Tryz.func97, Tryz.f97, QAq, Qq8, TP, TZ, Nat.reduceAdd, Nat.reduceMul, Nat.reduceBEq, Nat.reduceLeDiff, Nat.reduceLT]
 apply Qa9 c l i
 intro c l i
 simp -dsimp +contextual only [↓evA, eZ, Nat.reduceAdd, Nat.reduceMul, Nat.reduceBEq, Nat.reduceLeDiff, Nat.reduceLT, srt, Qg]
 try simp only [Jj, eY]
 all_goals rfl
theorem Qfo (i) {R1 c R2 l} [H1 : EncR Qo R1 c] [H2 : EncL QV R2 l] : LP T (n + 5) 97 7 (frm [(0, .ptr 0 0 0), (3, .sl 1), (5, .i .i64 i)]) [some (Ent.box R1), some (Ent.lst 3 R2)] =
  (run Jc (c, l, i)).map (fun (zr : l1Cur × (List Slot)) => (XE.exit 2, frm [(0, .ptr 0 0 0), (3, .sl 1)], [some (Ent.box (Qo zr.1)), some (Ent.lst 3 (zr.2.map QV))])) := by
 rcases H1, H2 with ⟨⟨rfl⟩, ⟨rfl⟩⟩
 rw [QA]
 simp -dsimp only [↓evA, evB, Qm, Tryz.func97, Tryz.f97, QAq, Qq8, TP, TZ, Nat.reduceAdd, Nat.reduceMul, Nat.reduceBEq, Nat.reduceLeDiff, Nat.reduceLT]
 apply Qa9 c l i
 intro c l i
 simp -dsimp +contextual only [↓evA, eZ, Nat.reduceAdd, Nat.reduceMul, Nat.reduceBEq, Nat.reduceLeDiff, Nat.reduceLT, srt, Qg, Qcb, QhT]
 try simp only [Jc, eY]
 all_goals rfl
theorem Qie {R1 c} [H1 : EncR Qo R1 c] : CA T (n + 6) 97 [some (Ent.box R1)] [.ptr 0 0 0] = (Qat c).map fun r => (.sl 1, [some (Ent.box (Qo r.1)), some (Ent.lst 3 (r.2.map QV))]) := by
 obtain ⟨rfl⟩ := H1
 rw [Zh]
 simp -dsimp +contextual (maxSteps := 100000000) only [↓evA, eZ, Nat.reduceAdd, Nat.reduceMul, Nat.reduceBEq, Nat.reduceLeDiff, Nat.reduceLT, Tryz.func97, Tryz.f97, QAq, Qq8, srt, Qg, Qfz, Qfo]
 try simp only [Qat, eY]
 all_goals rfl
theorem ZV {R1 c} [H1 : EncR Qo R1 c] : CA T (n + 4) 98 [some (Ent.box R1)] [.ptr 0 0 0] = (JC c).map fun r => (.i .i64 r.2, [some (Ent.box (Qo r.1))]) := by
 obtain ⟨rfl⟩ := H1
 rw [Zh]
 simp -dsimp +contextual (maxSteps := 100000000) only [↓evA, eZ, Nat.reduceAdd, Nat.reduceMul, Nat.reduceBEq, Nat.reduceLeDiff, Nat.reduceLT, Tryz.func98, Tryz.f98, QLD, Qu6, srt, Q4]
 try simp only [JC, eY]
 all_goals rfl
theorem QeJ {R1 c} [H1 : EncR Qo R1 c] : CA T (n + 7) 39 [some (Ent.box R1)] [.ptr 0 0 0] = (Qap c).map fun r => (.sl 1, [some (Ent.box (Qo r.1)), some (Ent.lst 3 (r.2.map QV))]) := by
 obtain ⟨rfl⟩ := H1
 rw [Zh]
 simp -dsimp +contextual (maxSteps := 100000000) only [↓evA, eZ, Nat.reduceAdd, Nat.reduceMul, Nat.reduceBEq, Nat.reduceLeDiff, Nat.reduceLT, Tryz.func39, Tryz.f39, QLd, Qvm, srt, Qie, Qg, Q4, ZV]
 try simp only [Qap, eY]
 all_goals rfl
theorem Qe0 (i) {R1 c R2 l} [H1 : EncR Qo R1 c] [H2 : EncL QV R2 l] : LP T (n + 3) 40 3 (frm [(0, .ptr 0 0 0), (3, .sl 1), (4, .i .i64 i)]) [some (Ent.box R1), some (Ent.lst 3 R2)] =
  (run XS (c, l, i)).map (fun (zr : l1Cur × (List Slot)) => (XE.exit 0, frm [(0, .ptr 0 0 0), (3, .sl 1)], [some (Ent.box (Qo zr.1)), some (Ent.lst 3 (zr.2.map QV))])) := by
 rcases H1, H2 with ⟨⟨rfl⟩, ⟨rfl⟩⟩
 rw [QA]
 simp -dsimp only [↓evA, evB, Qm, Tryz.func40, Tryz.f40, QD6, QsS, TP, TZ, Nat.reduceAdd, Nat.reduceMul, Nat.reduceBEq, Nat.reduceLeDiff, Nat.reduceLT]
 apply Qa9 c l i
 intro c l i
 simp -dsimp +contextual only [↓evA, eZ, Nat.reduceAdd, Nat.reduceMul, Nat.reduceBEq, Nat.reduceLeDiff, Nat.reduceLT, srt, Qg]
 try simp only [XS, eY]
 all_goals rfl
theorem Qc2 {R1 c} [H1 : EncR Qo R1 c] : CA T (n + 4) 40 [some (Ent.box R1)] [.ptr 0 0 0] = (Zm c).map fun r => (.sl 1, [some (Ent.box (Qo r.1)), some (Ent.lst 3 (r.2.map QV))]) := by
 obtain ⟨rfl⟩ := H1
 rw [Zh]
 simp -dsimp +contextual (maxSteps := 100000000) only [↓evA, eZ, Nat.reduceAdd, Nat.reduceMul, Nat.reduceBEq, Nat.reduceLeDiff, Nat.reduceLT, Tryz.func40, Tryz.f40, QD6, QsS, srt, Qe0]
 try simp only [Zm, eY]
 all_goals rfl
theorem Qeg {R1 c} [H1 : EncL QaQ R1 c] : CP T (n + 8) 6 [.imm 1 R1] = (Jv c).map fun r => .tup [.i .i64 r.1, .own 3 (r.2.map QV)] := by
 obtain ⟨rfl⟩ := H1
 rw [Qk]
 simp -dsimp +contextual only [↓evA, eZ, Nat.reduceAdd, Nat.reduceMul, Nat.reduceBEq, Nat.reduceLeDiff, Nat.reduceLT, Tryz.func6, Tryz.f6, Aa6, An6, srt, Qbx, Q4, Qjq, QeJ, Qc2]
 try simp only [Jv, eY]
 all_goals first | rfl | (simp +contextual only [evN] <;> rfl)
theorem Qez {R1 s} [H1 : EncL QV R1 s] : CP T (n + 1) 41 [.imm 3 R1] = (VT s).map fun r => .own 3 (r.map QV) := by
 obtain ⟨rfl⟩ := H1
 rw [Qk]
 simp -dsimp +contextual only [↓evA, eZ, Nat.reduceAdd, Nat.reduceMul, Nat.reduceBEq, Nat.reduceLeDiff, Nat.reduceLT, Tryz.func41, Tryz.f41, QNj, Qvq]
 try simp only [VT, eY]
 all_goals first | rfl | (simp +contextual only [evN] <;> rfl)
theorem Vi (a l a2) : CP T (n + 1) 42 [.i .i64 a, .i .i64 l, .i .i64 a2] = (Qc a l a2).map fun r => .b r := by
 rw [Qk]
 simp -dsimp +contextual only [↓evA, eZ, Nat.reduceAdd, Nat.reduceMul, Nat.reduceBEq, Nat.reduceLeDiff, Nat.reduceLT, Tryz.func42, Tryz.f42, QM6, QuK]
 try simp only [Qc, eY]
 all_goals rfl
theorem Qip {R1 a} [H1 : EncR QbH R1 a] : CP T (n + 2) 141 [.agg R1] = (ZU a).map fun r => .b r := by
 obtain ⟨rfl⟩ := H1
 rw [Qk]
 simp -dsimp +contextual only [↓evA, eZ, Nat.reduceAdd, Nat.reduceMul, Nat.reduceBEq, Nat.reduceLeDiff, Nat.reduceLT, Tryz.func141, Tryz.f141, QIq, Qqg, Vi]
 try simp only [ZU, eY]
 all_goals rfl
theorem Qjx {R1 f} [H1 : EncR VL R1 f] : CP T (n + 3) 99 [.agg R1] = (Qbk f).map fun r => .b r := by
 obtain ⟨rfl⟩ := H1
 rw [Qk]
 simp -dsimp +contextual only [↓evA, eZ, Nat.reduceAdd, Nat.reduceMul, Nat.reduceBEq, Nat.reduceLeDiff, Nat.reduceLT, Tryz.func99, Tryz.f99, QLY, Qv2, Qip, Vi]
 try simp only [Qbk, eY]
 all_goals rfl
theorem QeU (a2 a3) {R1 l R2 a} [H1 : EncL VL R1 l] [H2 : EncL VL R2 a] : LP T (n + 4) 44 4 (frm [(0, .imm 8 R1), (8, .imm 8 R2), (9, .i .i64 a2), (10, .i .i64 a3)]) [] =
  X7 (run (XO l a a2) a3) (fun (zr : Bool) => (XE.ret, frm [(2, .b zr)], [])) (fun (zr : Unit) => (XE.exit 0, frm [], [])) := by
 rcases H1, H2 with ⟨⟨rfl⟩, ⟨rfl⟩⟩
 rw [QA]
 simp -dsimp only [↓evA, evB, Qm, Tryz.func44, Tryz.f44, QEf, QtW, TP, TZ, Nat.reduceAdd, Nat.reduceMul, Nat.reduceBEq, Nat.reduceLeDiff, Nat.reduceLT]
 apply Qq a3
 intro a3
 simp -dsimp +contextual only [↓evA, eZ, Nat.reduceAdd, Nat.reduceMul, Nat.reduceBEq, Nat.reduceLeDiff, Nat.reduceLT, Qjx]
 try simp only [XO, eY]
 all_goals rfl
theorem Qhr {R1 l} [H1 : EncL VL R1 l] : CP T (n + 5) 44 [.imm 8 R1] = (Zn l).map fun r => .b r := by
 obtain ⟨rfl⟩ := H1
 rw [Qk]
 simp -dsimp +contextual only [↓evA, eZ, Nat.reduceAdd, Nat.reduceMul, Nat.reduceBEq, Nat.reduceLeDiff, Nat.reduceLT, Tryz.func44, Tryz.f44, QEf, QtW, QeU]
 try simp only [Zn, eY]
 all_goals rfl
theorem Qe4 (a2 a3) {R1 l R2 a} [H1 : EncL VF R1 l] [H2 : EncL VF R2 a] : LP T (n + 2) 100 4 (frm [(0, .imm 2 R1), (8, .imm 2 R2), (9, .i .i64 a2), (10, .i .i64 a3)]) [] =
  X7 (run (XT l a a2) a3) (fun (zr : Bool) => (XE.ret, frm [(2, .b zr)], [])) (fun (zr : Unit) => (XE.exit 0, frm [], [])) := by
 rcases H1, H2 with ⟨⟨rfl⟩, ⟨rfl⟩⟩
 rw [QA]
 simp -dsimp only [↓evA, evB, Qm, Tryz.func100, Tryz.f100, Qyl, QnA, TP, TZ, Nat.reduceAdd, Nat.reduceMul, Nat.reduceBEq, Nat.reduceLeDiff, Nat.reduceLT]
 apply Qq a3
 intro a3
 simp -dsimp +contextual only [↓evA, eZ, Nat.reduceAdd, Nat.reduceMul, Nat.reduceBEq, Nat.reduceLeDiff, Nat.reduceLT, Vi]
 try simp only [XT, eY]
 all_goals rfl
theorem Qc4 {R1 l} [H1 : EncL VF R1 l] : CP T (n + 3) 100 [.imm 2 R1] = (Zl l).map fun r => .b r := by
 obtain ⟨rfl⟩ := H1
 rw [Qk]
 simp -dsimp +contextual only [↓evA, eZ, Nat.reduceAdd, Nat.reduceMul, Nat.reduceBEq, Nat.reduceLeDiff, Nat.reduceLT, Tryz.func100, Tryz.f100, Qyl, QnA, Qe4]
 try simp only [Zl, eY]
 all_goals rfl
theorem QdB (a2 a3) {R1 l R2 a} [H1 : EncL Vb R1 l] [H2 : EncL Vb R2 a] : LP T (n + 4) 45 4 (frm [(0, .imm 3 R1), (8, .imm 3 R2), (9, .i .i64 a2), (10, .i .i64 a3)]) [] =
  X7 (run (V5 l a a2) a3) (fun (zr : Bool) => (XE.ret, frm [(2, .b zr)], [])) (fun (zr : Unit) => (XE.exit 0, frm [], [])) := by
 rcases H1, H2 with ⟨⟨rfl⟩, ⟨rfl⟩⟩
 rw [QA]
 simp -dsimp only [↓evA, evB, Qm, Tryz.func45, Tryz.f45, QGT, QtU, TP, TZ, Nat.reduceAdd, Nat.reduceMul, Nat.reduceBEq, Nat.reduceLeDiff, Nat.reduceLT]
 apply Qq a3
 intro a3
 simp -dsimp +contextual only [↓evA, eZ, Nat.reduceAdd, Nat.reduceMul, Nat.reduceBEq, Nat.reduceLeDiff, Nat.reduceLT, Vi, Qc4]
 try simp only [V5, eY]
 all_goals rfl
theorem QfZ {R1 l} [H1 : EncL Vb R1 l] : CP T (n + 5) 45 [.imm 3 R1] = (Jf l).map fun r => .b r := by
 obtain ⟨rfl⟩ := H1
 rw [Qk]
 simp -dsimp +contextual only [↓evA, eZ, Nat.reduceAdd, Nat.reduceMul, Nat.reduceBEq, Nat.reduceLeDiff, Nat.reduceLT, Tryz.func45, Tryz.f45, QGT, QtU, QdB]
 try simp only [Jf, eY]
 all_goals rfl
theorem Qft (c) {R1 a} [H1 : EncR QV R1 a] : CP T (n + 1) 107 [.agg R1, .iptr 1 [[.i .i64 c]] 0 0] = (Qad a c).map fun r => .b r := by
 obtain ⟨rfl⟩ := H1
 rw [Qk]
 simp -dsimp +contextual only [↓evA, eZ, Nat.reduceAdd, Nat.reduceMul, Nat.reduceBEq, Nat.reduceLeDiff, Nat.reduceLT, Tryz.func107, Tryz.f107, QFS, Qo9]
 try simp only [Qad, eY]
 all_goals rfl
theorem JX (f a a2) {R1 s} [H1 : EncL QV R1 s] : LP T (n + 2) 106 2 (frm [(0, .imm 3 R1), (1, .clo 107 [.iptr 1 [[.i .i64 f]] 0 0]), (7, .i .i64 a), (8, .i .i64 a2)]) [] =
  X7 (run (Qs s f a) a2) (fun (zr : Int) => (XE.ret, frm [(4, .i .i64 zr)], [])) (fun (zr : Unit) => (XE.exit 0, frm [], [])) := by
 obtain ⟨rfl⟩ := H1
 rw [QA]
 simp -dsimp only [↓evA, evB, Qm, Tryz.func106, Tryz.f106, QxZ, QmS, TP, TZ, Nat.reduceAdd, Nat.reduceMul, Nat.reduceBEq, Nat.reduceLeDiff, Nat.reduceLT]
 apply Qq a2
 intro a2
 simp -dsimp +contextual only [↓evA, eZ, Nat.reduceAdd, Nat.reduceMul, Nat.reduceBEq, Nat.reduceLeDiff, Nat.reduceLT, Qft]
 try simp only [Qs, eY]
 all_goals rfl
theorem Zs (c) {R1 s} [H1 : EncL QV R1 s] : CP T (n + 3) 106 [.imm 3 R1, .clo 107 [.iptr 1 [[.i .i64 c]] 0 0]] = (QY s c).map fun r => .i .i64 r := by
 obtain ⟨rfl⟩ := H1
 rw [Qk]
 simp -dsimp +contextual only [↓evA, eZ, Nat.reduceAdd, Nat.reduceMul, Nat.reduceBEq, Nat.reduceLeDiff, Nat.reduceLT, Tryz.func106, Tryz.f106, QxZ, QmS, JX]
 try simp only [QY, eY]
 all_goals rfl
theorem Qbq (a) {R1 l} [H1 : EncL QV R1 l] : CP T (n + 4) 52 [.imm 3 R1, .i .i64 a] = (Xb l a).map fun r => .i .i64 r := by
 obtain ⟨rfl⟩ := H1
 rw [Qk]
 simp -dsimp +contextual only [↓evA, eZ, Nat.reduceAdd, Nat.reduceMul, Nat.reduceBEq, Nat.reduceLeDiff, Nat.reduceLT, Tryz.func52, Tryz.f52, QIT, QvY, Zs]
 try simp only [Xb, eY]
 all_goals rfl
theorem QjD (a) {R1 l} [H1 : EncL QV R1 l] : CP T (n + 5) 43 [.imm 3 R1, .i .i64 a] = (Qao l a).map fun r => .i .i64 r := by
 obtain ⟨rfl⟩ := H1
 rw [Qk]
 simp -dsimp +contextual only [↓evA, eZ, Nat.reduceAdd, Nat.reduceMul, Nat.reduceBEq, Nat.reduceLeDiff, Nat.reduceLT, Tryz.func43, Tryz.f43, QMe, Qw7, Qbq]
 try simp only [Qao, eY]
 all_goals rfl
theorem Qfh (a2 a3) {R1 l R2 a} [H1 : EncL QV R1 l] [H2 : EncL QV R2 a] : LP T (n + 6) 8 4 (frm [(0, .imm 3 R1), (8, .imm 3 R2), (9, .i .i64 a2), (10, .i .i64 a3)]) [] =
  X7 (run (XU l a a2) a3) (fun (zr : Bool) => (XE.ret, frm [(2, .b zr)], [])) (fun (zr : Unit) => (XE.exit 0, frm [], [])) := by
 rcases H1, H2 with ⟨⟨rfl⟩, ⟨rfl⟩⟩
 rw [QA]
 simp -dsimp only [↓evA, evB, Qm, Tryz.func8, Tryz.f8, Aa8, An8, TP, TZ, Nat.reduceAdd, Nat.reduceMul, Nat.reduceBEq, Nat.reduceLeDiff, Nat.reduceLT]
 apply Qq a3
 intro a3
 simp -dsimp +contextual only [↓evA, eZ, Nat.reduceAdd, Nat.reduceMul, Nat.reduceBEq, Nat.reduceLeDiff, Nat.reduceLT, Vi, QjD]
 try simp only [XU, eY]
 all_goals rfl
theorem Qc8 {R1 l} [H1 : EncL QV R1 l] : CP T (n + 7) 8 [.imm 3 R1] = (Xd l).map fun r => .b r := by
 obtain ⟨rfl⟩ := H1
 rw [Qk]
 simp -dsimp +contextual only [↓evA, eZ, Nat.reduceAdd, Nat.reduceMul, Nat.reduceBEq, Nat.reduceLeDiff, Nat.reduceLT, Tryz.func8, Tryz.f8, Aa8, An8, Qfh]
 try simp only [Xd, eY]
 all_goals rfl
theorem Qes (a3 a4 a6 a7) {R1 l R2 a R3 a2 R4 a5} [H1 : EncL QK R1 l] [H2 : EncR QK R2 a] [H3 : EncL QK R3 a2] [H4 : EncL QK R4 a5] : LP T (n + 1) 46 9 (frm [(0, .imm 5 R1), (4, .ptr 0 0 0), (10, .imm 5 R3), (11, .i .i64 a3), (12, .i .i64 a4), (62, .imm 5 R4), (63, .i .i64 a6), (64, .i .i64 a7)]) [some (Ent.box R2)] =
  X7 (run (VN l a a2 a3 a4 a5 a6) a7) (fun (zr : Bool) => (XE.ret, frm [(2, .b zr)], [])) (fun (zr : Unit) => (XE.exit 2, frm [(0, .imm 5 (l.map QK)), (10, .imm 5 (a2.map QK)), (11, .i .i64 a3), (12, .i .i64 a4)], [])) := by
 rcases H1, H2, H3, H4 with ⟨⟨rfl⟩, ⟨rfl⟩, ⟨rfl⟩, ⟨rfl⟩⟩
 rw [QA]
 simp -dsimp only [↓evA, evB, Qm, Tryz.func46, Tryz.f46, QBr, QqX, TP, TZ, Nat.reduceAdd, Nat.reduceMul, Nat.reduceBEq, Nat.reduceLeDiff, Nat.reduceLT]
 apply Qq a7
 intro a7
 simp -dsimp +contextual only [↓evA, eZ, Nat.reduceAdd, Nat.reduceMul, Nat.reduceBEq, Nat.reduceLeDiff, Nat.reduceLT]
 try simp only [VN, eY]
 all_goals rfl
theorem Qey (a2 a3) {R1 l R2 a} [H1 : EncL QK R1 l] [H2 : EncL QK R2 a] : LP T (n + 2) 46 4 (frm [(0, .imm 5 R1), (10, .imm 5 R2), (11, .i .i64 a2), (12, .i .i64 a3)]) [] =
  X7 (run (Xq l a a2) a3) (fun (zr : Bool) => (XE.ret, frm [(2, .b zr)], [])) (fun (zr : Unit) => (XE.exit 0, frm [], [])) := by
 rcases H1, H2 with ⟨⟨rfl⟩, ⟨rfl⟩⟩
 rw [QA]
 simp -dsimp only [↓evA, evB, Qm, Tryz.func46, Tryz.f46, QBr, QqX, TP, TZ, Nat.reduceAdd, Nat.reduceMul, Nat.reduceBEq, Nat.reduceLeDiff, Nat.reduceLT]
 apply Qq a3
 intro a3
 simp -dsimp +contextual only [↓evA, eZ, Nat.reduceAdd, Nat.reduceMul, Nat.reduceBEq, Nat.reduceLeDiff, Nat.reduceLT, Vi, Qes]
 try simp only [Xq, eY]
 all_goals rfl
theorem QgY {R1 l} [H1 : EncL QK R1 l] : CP T (n + 3) 46 [.imm 5 R1] = (VU l).map fun r => .b r := by
 obtain ⟨rfl⟩ := H1
 rw [Qk]
 simp -dsimp +contextual only [↓evA, eZ, Nat.reduceAdd, Nat.reduceMul, Nat.reduceBEq, Nat.reduceLeDiff, Nat.reduceLT, Tryz.func46, Tryz.f46, QBr, QqX, Qey]
 try simp only [VU, eY]
 all_goals rfl
theorem Qn2 (p q) : CP T (n + 2) 258 [.i .i64 p, .i .i64 q] = (Qbl p q).map fun r => .i .i64 r := by
 rw [Qk]
 simp -dsimp +contextual only [↓evA, eZ, Nat.reduceAdd, Nat.reduceMul, Nat.reduceBEq, Nat.reduceLeDiff, Nat.reduceLT, Tryz.func258, Tryz.f258, QGh, Qqr, Vi]
 try simp only [Qbl, eY]
 all_goals rfl
theorem Qmf (a v) : CP T (n + 3) 228 [.i .i64 a, .i .i64 v] = (Qd2 a v).map fun r => .i .i64 r := by
 rw [Qk]
 simp -dsimp +contextual only [↓evA, eZ, Nat.reduceAdd, Nat.reduceMul, Nat.reduceBEq, Nat.reduceLeDiff, Nat.reduceLT, Tryz.func228, Tryz.f228, QGo, Qqj, Qn2]
 try simp only [Qd2, eY]
 all_goals rfl
theorem QhV (a a3 a4) {R1 a2} [H1 : EncL Vj R1 a2] : LP T (n + 4) 166 3 (frm [(3, .i .i64 a), (6, .imm 1 R1), (7, .i .i64 a3), (8, .i .i64 a4)]) [] =
  (run (Qaz a2 a3) (a, a4)).map (fun (zr : Int) => (XE.exit 0, frm [(3, .i .i64 zr)], [])) := by
 obtain ⟨rfl⟩ := H1
 rw [QA]
 simp -dsimp only [↓evA, evB, Qm, Tryz.func166, Tryz.f166, Qyt, Qm9, TP, TZ, Nat.reduceAdd, Nat.reduceMul, Nat.reduceBEq, Nat.reduceLeDiff, Nat.reduceLT]
 apply VV a a4
 intro a a4
 simp -dsimp +contextual only [↓evA, eZ, Nat.reduceAdd, Nat.reduceMul, Nat.reduceBEq, Nat.reduceLeDiff, Nat.reduceLT, Qmf]
 try simp only [Qaz, eY]
 all_goals rfl
theorem Qm5 {R1 v} [H1 : EncL Vj R1 v] : CP T (n + 5) 166 [.imm 1 R1] = (Qck v).map fun r => .i .i64 r := by
 obtain ⟨rfl⟩ := H1
 rw [Qk]
 simp -dsimp +contextual only [↓evA, eZ, Nat.reduceAdd, Nat.reduceMul, Nat.reduceBEq, Nat.reduceLeDiff, Nat.reduceLT, Tryz.func166, Tryz.f166, Qyt, Qm9, QhV]
 try simp only [Qck, eY]
 all_goals rfl
theorem Qhi (b) {R1 a} [H1 : EncR Vo R1 a] : CP T (n + 6) 101 [.i .i64 b, .agg R1] = (Zp b a).map fun r => .i .i64 r := by
 obtain ⟨rfl⟩ := H1
 rw [Qk]
 simp -dsimp +contextual only [↓evA, eZ, Nat.reduceAdd, Nat.reduceMul, Nat.reduceBEq, Nat.reduceLeDiff, Nat.reduceLT, Tryz.func101, Tryz.f101, QG8, Qo4, Qm5]
 try simp only [Zp, eY]
 all_goals rfl
theorem QeZ (a i) {R1 l} [H1 : EncL Vo R1 l] : LP T (n + 1) 54 2 (frm [(0, .imm 5 R1), (1, .i .i64 a), (5, .i .i64 i)]) [] =
  X7 (run (JP l a) i) (fun (zr : Int) => (XE.ret, frm [(4, .i .i64 zr)], [])) (fun (zr : Unit) => (XE.exit 0, frm [], [])) := by
 obtain ⟨rfl⟩ := H1
 rw [QA]
 simp -dsimp only [↓evA, evB, Qm, Tryz.func54, Tryz.f54, QFg, QsC, TP, TZ, Nat.reduceAdd, Nat.reduceMul, Nat.reduceBEq, Nat.reduceLeDiff, Nat.reduceLT]
 apply Qq i
 intro i
 simp -dsimp +contextual only [↓evA, eZ, Nat.reduceAdd, Nat.reduceMul, Nat.reduceBEq, Nat.reduceLeDiff, Nat.reduceLT]
 try simp only [JP, eY]
 all_goals rfl
theorem Qc6 (a) {R1 l} [H1 : EncL Vo R1 l] : CP T (n + 2) 54 [.imm 5 R1, .i .i64 a] = (Jx l a).map fun r => .i .i64 r := by
 obtain ⟨rfl⟩ := H1
 rw [Qk]
 simp -dsimp +contextual only [↓evA, eZ, Nat.reduceAdd, Nat.reduceMul, Nat.reduceBEq, Nat.reduceLeDiff, Nat.reduceLT, Tryz.func54, Tryz.f54, QFg, QsC, QeZ]
 try simp only [Jx, eY]
 all_goals rfl
theorem Qf7 (b a2 a3) {R1 l R2 a} [H1 : EncL Vo R1 l] [H2 : EncL Vo R2 a] : LP T (n + 7) 47 5 (frm [(0, .imm 5 R1), (3, .i .i64 b), (10, .imm 5 R2), (11, .i .i64 a2), (12, .i .i64 a3)]) [] =
  X7 (run (Xt l a a2) (b, a3)) (fun (zr : Bool) => (XE.ret, frm [(2, .b zr)], [])) (fun (zr : Unit) => (XE.exit 0, frm [], [])) := by
 rcases H1, H2 with ⟨⟨rfl⟩, ⟨rfl⟩⟩
 rw [QA]
 simp -dsimp only [↓evA, evB, Qm, Tryz.func47, Tryz.f47, QHv, QtG, TP, TZ, Nat.reduceAdd, Nat.reduceMul, Nat.reduceBEq, Nat.reduceLeDiff, Nat.reduceLT]
 apply VV b a3
 intro b a3
 simp -dsimp +contextual only [↓evA, eZ, Nat.reduceAdd, Nat.reduceMul, Nat.reduceBEq, Nat.reduceLeDiff, Nat.reduceLT, Vi, Qhi, Qc6]
 try simp only [Xt, eY]
 all_goals rfl
theorem Qdn {R1 l} [H1 : EncL Vo R1 l] : CP T (n + 8) 47 [.imm 5 R1] = (Xc l).map fun r => .b r := by
 obtain ⟨rfl⟩ := H1
 rw [Qk]
 simp -dsimp +contextual only [↓evA, eZ, Nat.reduceAdd, Nat.reduceMul, Nat.reduceBEq, Nat.reduceLeDiff, Nat.reduceLT, Tryz.func47, Tryz.f47, QHv, QtG, Qf7]
 try simp only [Xc, eY]
 all_goals rfl
theorem Qdm (a2 a3) {R1 l R2 a} [H1 : EncL VB R1 l] [H2 : EncL VB R2 a] : LP T (n + 2) 48 4 (frm [(0, .imm 4 R1), (8, .imm 4 R2), (9, .i .i64 a2), (10, .i .i64 a3)]) [] =
  X7 (run (V4 l a a2) a3) (fun (zr : Bool) => (XE.ret, frm [(2, .b zr)], [])) (fun (zr : Unit) => (XE.exit 0, frm [], [])) := by
 rcases H1, H2 with ⟨⟨rfl⟩, ⟨rfl⟩⟩
 rw [QA]
 simp -dsimp only [↓evA, evB, Qm, Tryz.func48, Tryz.f48, QHI, Qud, TP, TZ, Nat.reduceAdd, Nat.reduceMul, Nat.reduceBEq, Nat.reduceLeDiff, Nat.reduceLT]
 apply Qq a3
 intro a3
 simp -dsimp +contextual only [↓evA, eZ, Nat.reduceAdd, Nat.reduceMul, Nat.reduceBEq, Nat.reduceLeDiff, Nat.reduceLT, Vi]
 try simp only [V4, eY]
 all_goals rfl
theorem Qfv {R1 l} [H1 : EncL VB R1 l] : CP T (n + 3) 48 [.imm 4 R1] = (Xx l).map fun r => .b r := by
 obtain ⟨rfl⟩ := H1
 rw [Qk]
 simp -dsimp +contextual only [↓evA, eZ, Nat.reduceAdd, Nat.reduceMul, Nat.reduceBEq, Nat.reduceLeDiff, Nat.reduceLT, Tryz.func48, Tryz.f48, QHI, Qud, Qdm]
 try simp only [Xx, eY]
 all_goals rfl
theorem Qga (a a3 a4) {R1 l R2 o R3 a2} [H1 : EncL Vo R1 l] [H2 : EncL Vj R2 o] [H3 : EncL Vo R3 a2] : LP T (n + 3) 14 5 (frm [(0, .imm 5 R1), (1, .i .i64 a), (5, .sl 0), (13, .imm 5 R3), (14, .i .i64 a3), (15, .i .i64 a4)]) [some (Ent.lst 1 R2)] =
  (run (X9 l a a2 a3) (o, a4)).map (fun (zr : (List Int)) => (XE.exit 0, frm [(5, .sl 0)], [some (Ent.lst 1 (zr.map Vj))])) := by
 rcases H1, H2, H3 with ⟨⟨rfl⟩, ⟨rfl⟩, ⟨rfl⟩⟩
 rw [QA]
 simp -dsimp only [↓evA, evB, Qm, Tryz.func14, Tryz.f14, QDw, Quu, TP, TZ, Nat.reduceAdd, Nat.reduceMul, Nat.reduceBEq, Nat.reduceLeDiff, Nat.reduceLT]
 apply VV o a4
 intro o a4
 simp -dsimp +contextual only [↓evA, eZ, Nat.reduceAdd, Nat.reduceMul, Nat.reduceBEq, Nat.reduceLeDiff, Nat.reduceLT, srt, Qc6]
 try simp only [X9, eY]
 all_goals rfl
theorem Qdk (a) {R1 l} [H1 : EncL Vo R1 l] : CP T (n + 9) 14 [.imm 5 R1, .i .i64 a] = (XD l a).map fun r => .own 1 (r.map Vj) := by
 obtain ⟨rfl⟩ := H1
 rw [Qk]
 simp -dsimp +contextual only [↓evA, eZ, Nat.reduceAdd, Nat.reduceMul, Nat.reduceBEq, Nat.reduceLeDiff, Nat.reduceLT, Tryz.func14, Tryz.f14, QDw, Quu, srt, Qdn, Qga]
 try simp only [XD, eY]
 all_goals first | rfl | (simp +contextual only [evN] <;> rfl)
theorem Qdg (v a a2) {R1 s} [H1 : EncL Vj R1 s] : LP T (n + 1) 167 2 (frm [(0, .imm 1 R1), (1, .i .i64 v), (7, .i .i64 a), (8, .i .i64 a2)]) [] =
  X7 (run (VW s v a) a2) (fun (zr : Int) => (XE.ret, frm [(4, .i .i64 zr)], [])) (fun (zr : Unit) => (XE.exit 0, frm [], [])) := by
 obtain ⟨rfl⟩ := H1
 rw [QA]
 simp -dsimp only [↓evA, evB, Qm, Tryz.func167, Tryz.f167, QxP, QnB, TP, TZ, Nat.reduceAdd, Nat.reduceMul, Nat.reduceBEq, Nat.reduceLeDiff, Nat.reduceLT]
 apply Qq a2
 intro a2
 simp -dsimp +contextual only [↓evA, eZ, Nat.reduceAdd, Nat.reduceMul, Nat.reduceBEq, Nat.reduceLeDiff, Nat.reduceLT]
 try simp only [VW, eY]
 all_goals rfl
theorem QeR (v) {R1 s} [H1 : EncL Vj R1 s] : CP T (n + 2) 167 [.imm 1 R1, .i .i64 v] = (ZW s v).map fun r => .i .i64 r := by
 obtain ⟨rfl⟩ := H1
 rw [Qk]
 simp -dsimp +contextual only [↓evA, eZ, Nat.reduceAdd, Nat.reduceMul, Nat.reduceBEq, Nat.reduceLeDiff, Nat.reduceLT, Tryz.func167, Tryz.f167, QxP, QnB, Qdg]
 try simp only [ZW, eY]
 all_goals rfl
theorem Qdd (v) {R1 s} [H1 : EncL Vj R1 s] : CP T (n + 3) 102 [.imm 1 R1, .i .i64 v] = (Xy s v).map fun r => .b r := by
 obtain ⟨rfl⟩ := H1
 rw [Qk]
 simp -dsimp +contextual only [↓evA, eZ, Nat.reduceAdd, Nat.reduceMul, Nat.reduceBEq, Nat.reduceLeDiff, Nat.reduceLT, Tryz.func102, Tryz.f102, QHP, Qpv, QeR]
 try simp only [Xy, eY]
 all_goals rfl
theorem Qe1 (c) {R1 f} [H1 : EncR VL R1 f] : CP T (n + 1) 169 [.agg R1, .iptr 1 [[.i .i64 c]] 0 0] = (Z0 f c).map fun r => .b r := by
 obtain ⟨rfl⟩ := H1
 rw [Qk]
 simp -dsimp +contextual only [↓evA, eZ, Nat.reduceAdd, Nat.reduceMul, Nat.reduceBEq, Nat.reduceLeDiff, Nat.reduceLT, Tryz.func169, Tryz.f169, QGE, Qqh]
 try simp only [Z0, eY]
 all_goals rfl
theorem JO (f a a2) {R1 s} [H1 : EncL VL R1 s] : LP T (n + 2) 168 2 (frm [(0, .imm 8 R1), (1, .clo 169 [.iptr 1 [[.i .i64 f]] 0 0]), (7, .i .i64 a), (8, .i .i64 a2)]) [] =
  X7 (run (Qp s f a) a2) (fun (zr : Int) => (XE.ret, frm [(4, .i .i64 zr)], [])) (fun (zr : Unit) => (XE.exit 0, frm [], [])) := by
 obtain ⟨rfl⟩ := H1
 rw [QA]
 simp -dsimp only [↓evA, evB, Qm, Tryz.func168, Tryz.f168, QxM, Qns, TP, TZ, Nat.reduceAdd, Nat.reduceMul, Nat.reduceBEq, Nat.reduceLeDiff, Nat.reduceLT]
 apply Qq a2
 intro a2
 simp -dsimp +contextual only [↓evA, eZ, Nat.reduceAdd, Nat.reduceMul, Nat.reduceBEq, Nat.reduceLeDiff, Nat.reduceLT, Qe1]
 try simp only [Qp, eY]
 all_goals rfl
theorem Zj (c) {R1 s} [H1 : EncL VL R1 s] : CP T (n + 3) 168 [.imm 8 R1, .clo 169 [.iptr 1 [[.i .i64 c]] 0 0]] = (QW s c).map fun r => .i .i64 r := by
 obtain ⟨rfl⟩ := H1
 rw [Qk]
 simp -dsimp +contextual only [↓evA, eZ, Nat.reduceAdd, Nat.reduceMul, Nat.reduceBEq, Nat.reduceLeDiff, Nat.reduceLT, Tryz.func168, Tryz.f168, QxM, Qns, JO]
 try simp only [QW, eY]
 all_goals rfl
theorem QaW (i) {R1 l} [H1 : EncL VL R1 l] : CP T (n + 4) 103 [.imm 8 R1, .i .i64 i] = (X5 l i).map fun r => .i .i64 r := by
 obtain ⟨rfl⟩ := H1
 rw [Qk]
 simp -dsimp +contextual only [↓evA, eZ, Nat.reduceAdd, Nat.reduceMul, Nat.reduceBEq, Nat.reduceLeDiff, Nat.reduceLT, Tryz.func103, Tryz.f103, QEB, Qo5, Zj]
 try simp only [X5, eY]
 all_goals rfl
theorem Qgc (a3 a4) {R1 a R2 i R3 a2} [H1 : EncR Vg R1 a] [H2 : EncL Vj R2 i] [H3 : EncL VL R3 a2] : LP T (n + 5) 49 5 (frm [(1, .ptr 0 0 0), (3, .sl 1), (23, .imm 8 R3), (24, .i .i64 a3), (25, .i .i64 a4)]) [some (Ent.box R1), some (Ent.lst 1 R2)] =
  X7 (run (Vt a i a2 a3) a4) (fun (zr : Bool) => (XE.ret, frm [(2, .b zr)], [])) (fun (zr : Unit) => (XE.exit 0, frm [(1, .ptr 0 0 0), (3, .sl 1)], [some (Ent.box (Vg a)), some (Ent.lst 1 (i.map Vj))])) := by
 rcases H1, H2, H3 with ⟨⟨rfl⟩, ⟨rfl⟩, ⟨rfl⟩⟩
 rw [QA]
 simp -dsimp only [↓evA, evB, Qm, Tryz.func49, Tryz.f49, Qxe, QnR, TP, TZ, Nat.reduceAdd, Nat.reduceMul, Nat.reduceBEq, Nat.reduceLeDiff, Nat.reduceLT]
 apply Qq a4
 intro a4
 simp -dsimp +contextual (maxSteps := 100000000) only [↓evA, eZ, Nat.reduceAdd, Nat.reduceMul, Nat.reduceBEq, Nat.reduceLeDiff, Nat.reduceLT, Qbq, Qdd]
 try simp only [Vt, eY]
 all_goals rfl
theorem Qe8 (a3 a4) {R1 a R2 i R3 a2} [H1 : EncR Vg R1 a] [H2 : EncL Vj R2 i] [H3 : EncL QV R3 a2] : LP T (n + 5) 49 11 (frm [(1, .ptr 0 0 0), (3, .sl 1), (57, .imm 3 R3), (58, .i .i64 a3), (59, .i .i64 a4)]) [some (Ent.box R1), some (Ent.lst 1 R2)] =
  X7 (run (QX a i a2 a3) a4) (fun (zr : Bool) => (XE.ret, frm [(2, .b zr)], [])) (fun (zr : Unit) => (XE.exit 2, frm [(1, .ptr 0 0 0), (3, .sl 1)], [some (Ent.box (Vg a)), some (Ent.lst 1 (i.map Vj))])) := by
 rcases H1, H2, H3 with ⟨⟨rfl⟩, ⟨rfl⟩, ⟨rfl⟩⟩
 rw [QA]
 simp -dsimp only [↓evA, evB, Qm, Tryz.func49, Tryz.f49, Qxe, QnR, TP, TZ, Nat.reduceAdd, Nat.reduceMul, Nat.reduceBEq, Nat.reduceLeDiff, Nat.reduceLT]
 apply Qq a4
 intro a4
 simp -dsimp +contextual (maxSteps := 100000000) only [↓evA, eZ, Nat.reduceAdd, Nat.reduceMul, Nat.reduceBEq, Nat.reduceLeDiff, Nat.reduceLT, QaW]
 try simp only [QX, eY]
 all_goals rfl
theorem Qfg (a3 a4) {R1 a R2 a2} [H1 : EncR Vg R1 a] [H2 : EncL Vj R2 a2] : LP T (n + 5) 49 17 (frm [(1, .ptr 0 0 0), (75, .sl 1), (76, .i .i64 a3), (77, .i .i64 a4)]) [some (Ent.box R1), some (Ent.lst 1 R2)] =
  X7 (run (VJ a a2 a3) a4) (fun (zr : Bool) => (XE.ret, frm [(2, .b zr)], [])) (fun (zr : Unit) => (XE.exit 4, frm [], [])) := by
 rcases H1, H2 with ⟨⟨rfl⟩, ⟨rfl⟩⟩
 rw [QA]
 simp -dsimp only [↓evA, evB, Qm, Tryz.func49, Tryz.f49, Qxe, QnR, TP, TZ, Nat.reduceAdd, Nat.reduceMul, Nat.reduceBEq, Nat.reduceLeDiff, Nat.reduceLT]
 apply Qq a4
 intro a4
 simp -dsimp +contextual (maxSteps := 100000000) only [↓evA, eZ, Nat.reduceAdd, Nat.reduceMul, Nat.reduceBEq, Nat.reduceLeDiff, Nat.reduceLT, QaW]
 try simp only [VJ, eY]
 all_goals rfl
end Go.Proofs.YtncpklppoancgaaGreat
