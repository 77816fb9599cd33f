import Derived.Test.YtcdffihcfeajfaaGreatEq5
namespace Go.Proofs.YtcdffihcfeajfaaGreat
open Go Go.Proofs Go.Proofs.YtcdffihcfeajfaaGreat.Am
set_option maxHeartbeats 4000000
set_option linter.unusedVariables false
set_option linter.unusedSimpArgs false
set_option linter.defProp false
set_option maxRecDepth 100000
variable (n : Nat)
theorem Qh6 (k i) {R1 a} [H1 : EncL Q1 R1 a] : LP T (n + 1) 76 2 (frm [(0, .sl 0), (1, .i .i64 k), (5, .i .i64 i)]) [some (Ent.lst 5 R1)] =
  (run Jg (a, k, i)).map (fun (zr : (List Hand) × Int) => (XE.exit 0, frm [(0, .sl 0), (1, .i .i64 zr.2)], [some (Ent.lst 5 (zr.1.map Q1))])) := by
 obtain ⟨rfl⟩ := H1
 rw [Qn]
 simp -dsimp only [↓evA, evB, Qf, Tryz.func76, Tryz.f76, a76, n76, TP, TZ, Nat.reduceAdd, Nat.reduceMul, Nat.reduceBEq, Nat.reduceLeDiff, Nat.reduceLT]
 apply JG a k i
 intro a k i
 simp -dsimp +contextual only [↓evA, eZ, Nat.reduceAdd, Nat.reduceMul, Nat.reduceBEq, Nat.reduceLeDiff, Nat.reduceLT]
 try simp only [Jg, eY]
 all_goals rfl
theorem Qla (k) {R1 a} [H1 : EncL Q1 R1 a] : CA T (n + 2) 76 [some (Ent.lst 5 R1)] [.sl 0, .i .i64 k] = (QbR a k).map fun r => (.i .i64 r.2, [some (Ent.lst 5 (r.1.map Q1))]) := by
 obtain ⟨rfl⟩ := H1
 rw [Qft]
 simp -dsimp +contextual only [↓evA, eZ, Nat.reduceAdd, Nat.reduceMul, Nat.reduceBEq, Nat.reduceLeDiff, Nat.reduceLT, Tryz.func76, Tryz.f76, a76, n76, Qh6]
 try simp only [QbR, eY]
 all_goals rfl
theorem Qg5 (k i) {R1 a} [H1 : EncL QK R1 a] : LP T (n + 1) 77 2 (frm [(0, .sl 0), (1, .i .i64 k), (5, .i .i64 i)]) [some (Ent.lst 4 R1)] =
  (run XP (a, k, i)).map (fun (zr : (List Entry) × Int) => (XE.exit 0, frm [(0, .sl 0), (1, .i .i64 zr.2)], [some (Ent.lst 4 (zr.1.map QK))])) := by
 obtain ⟨rfl⟩ := H1
 rw [Qn]
 simp -dsimp only [↓evA, evB, Qf, Tryz.func77, Tryz.f77, a77, n77, TP, TZ, Nat.reduceAdd, Nat.reduceMul, Nat.reduceBEq, Nat.reduceLeDiff, Nat.reduceLT]
 apply JG a k i
 intro a k i
 simp -dsimp +contextual only [↓evA, eZ, Nat.reduceAdd, Nat.reduceMul, Nat.reduceBEq, Nat.reduceLeDiff, Nat.reduceLT]
 try simp only [XP, eY]
 all_goals rfl
theorem QkE (k) {R1 a} [H1 : EncL QK R1 a] : CA T (n + 2) 77 [some (Ent.lst 4 R1)] [.sl 0, .i .i64 k] = (QaU a k).map fun r => (.i .i64 r.2, [some (Ent.lst 4 (r.1.map QK))]) := by
 obtain ⟨rfl⟩ := H1
 rw [Qft]
 simp -dsimp +contextual only [↓evA, eZ, Nat.reduceAdd, Nat.reduceMul, Nat.reduceBEq, Nat.reduceLeDiff, Nat.reduceLT, Tryz.func77, Tryz.f77, a77, n77, Qg5]
 try simp only [QaU, eY]
 all_goals rfl
theorem QlS (axNo axNow k) {R1 axFinds R2 axSecrets R3 axSlots R4 axClaims R5 axTrials R6 axChain R7 axBook} [H1 : EncL Qv R1 axFinds] [H2 : EncL Qw R2 axSecrets] [H3 : EncL QL R3 axSlots] [H4 : EncL Qg R4 axClaims] [H5 : EncL QA R5 axTrials] [H6 : EncL Q1 R6 axChain] [H7 : EncL QK R7 axBook] : CA T (n + 5) 20 [some (Ent.lst 8 R1), some (Ent.lst 3 R2), some (Ent.lst 3 R3), some (Ent.lst 5 R4), some (Ent.lst 4 R5), some (Ent.lst 5 R6), some (Ent.lst 4 R7)] [.agg [.i .i64 axNo, .sl 0, .sl 1, .sl 2, .sl 3, .sl 4, .sl 5, .sl 6, .i .i64 axNow], .i .i64 k] = (Xs (⟨axNo, axFinds, axSecrets, axSlots, axClaims, axTrials, axChain, axBook, axNow⟩ : House) k).map fun r => (.i .i64 r.2, [some (Ent.lst 8 (r.1.Finds.map Qv)), some (Ent.lst 3 (r.1.Secrets.map Qw)), some (Ent.lst 3 (r.1.Slots.map QL)), some (Ent.lst 5 (r.1.Claims.map Qg)), some (Ent.lst 4 (r.1.Trials.map QA)), some (Ent.lst 5 (r.1.Chain.map Q1)), some (Ent.lst 4 (r.1.Book.map QK))]) := by
 rcases H1, H2, H3, H4, H5, H6, H7 with ⟨⟨rfl⟩, ⟨rfl⟩, ⟨rfl⟩, ⟨rfl⟩, ⟨rfl⟩, ⟨rfl⟩, ⟨rfl⟩⟩
 rw [Qft]
 simp -dsimp +contextual (maxSteps := 100000000) only [↓evA, eZ, Nat.reduceAdd, Nat.reduceMul, Nat.reduceBEq, Nat.reduceLeDiff, Nat.reduceLT, Tryz.func20, Tryz.f20, a20, n20, srt, QlR, QiQ, QlD, Qjv, Qkh, Qla, QkE]
 try simp only [Xs, eY]
 all_goals rfl
theorem QiS (k i) {R1 a} [H1 : EncL Vx R1 a] : LP T (n + 1) 46 2 (frm [(0, .sl 0), (1, .i .i64 k), (5, .i .i64 i)]) [some (Ent.lst 3 R1)] =
  (run JU (a, k, i)).map (fun (zr : (List Bid) × Int) => (XE.exit 0, frm [(0, .sl 0), (1, .i .i64 zr.2)], [some (Ent.lst 3 (zr.1.map Vx))])) := by
 obtain ⟨rfl⟩ := H1
 rw [Qn]
 simp -dsimp only [↓evA, evB, Qf, Tryz.func46, Tryz.f46, a46, n46, TP, TZ, Nat.reduceAdd, Nat.reduceMul, Nat.reduceBEq, Nat.reduceLeDiff, Nat.reduceLT]
 apply JG a k i
 intro a k i
 simp -dsimp +contextual only [↓evA, eZ, Nat.reduceAdd, Nat.reduceMul, Nat.reduceBEq, Nat.reduceLeDiff, Nat.reduceLT]
 try simp only [JU, eY]
 all_goals rfl
theorem Qmv (k) {R1 a} [H1 : EncL Vx R1 a] : CA T (n + 2) 46 [some (Ent.lst 3 R1)] [.sl 0, .i .i64 k] = (QcJ a k).map fun r => (.i .i64 r.2, [some (Ent.lst 3 (r.1.map Vx))]) := by
 obtain ⟨rfl⟩ := H1
 rw [Qft]
 simp -dsimp +contextual only [↓evA, eZ, Nat.reduceAdd, Nat.reduceMul, Nat.reduceBEq, Nat.reduceLeDiff, Nat.reduceLT, Tryz.func46, Tryz.f46, a46, n46, QiS]
 try simp only [QcJ, eY]
 all_goals rfl
theorem QhI (a2 a3) {R1 a} [H1 : EncL Qc6 R1 a] : LP T (n + 3) 58 2 (frm [(0, .sl 0), (1, .i .i64 a2), (5, .i .i64 a3)]) [some (Ent.lst 14 R1)] =
  (run XG (a, a2, a3)).map (fun (zr : (List Event) × Int) => (XE.exit 0, frm [(0, .sl 0), (1, .i .i64 zr.2)], [some (Ent.lst 14 (zr.1.map Qc6))])) := by
 obtain ⟨rfl⟩ := H1
 rw [Qn]
 simp -dsimp only [↓evA, evB, Qf, Tryz.func58, Tryz.f58, a58, n58, TP, TZ, Nat.reduceAdd, Nat.reduceMul, Nat.reduceBEq, Nat.reduceLeDiff, Nat.reduceLT]
 apply JG a a2 a3
 intro a a2 a3
 simp -dsimp +contextual only [↓evA, eZ, Nat.reduceAdd, Nat.reduceMul, Nat.reduceBEq, Nat.reduceLeDiff, Nat.reduceLT, srt, Qf5, Qmv]
 try simp only [XG, eY]
 all_goals rfl
theorem QkK (a2) {R1 a} [H1 : EncL Qc6 R1 a] : CA T (n + 4) 58 [some (Ent.lst 14 R1)] [.sl 0, .i .i64 a2] = (Qa8 a a2).map fun r => (.i .i64 r.2, [some (Ent.lst 14 (r.1.map Qc6))]) := by
 obtain ⟨rfl⟩ := H1
 rw [Qft]
 simp -dsimp +contextual only [↓evA, eZ, Nat.reduceAdd, Nat.reduceMul, Nat.reduceBEq, Nat.reduceLeDiff, Nat.reduceLT, Tryz.func58, Tryz.f58, a58, n58, srt, QhI]
 try simp only [Qa8, eY]
 all_goals rfl
theorem Qic (a2 a3) {R1 a} [H1 : EncL Qv R1 a] : LP T (n + 1) 78 2 (frm [(0, .imm 8 R1), (1, .i .i64 a2), (5, .i .i64 a3)]) [] =
  VR (run (Js a) (a2, a3)) (fun (zr : Int) => (XE.ret, frm [(4, .i .i64 zr)], [])) (fun (zr : Int) => (XE.exit 0, frm [(1, .i .i64 zr)], [])) := by
 obtain ⟨rfl⟩ := H1
 rw [Qn]
 simp -dsimp only [↓evA, evB, Qf, Tryz.func78, Tryz.f78, a78, n78, TP, TZ, Nat.reduceAdd, Nat.reduceMul, Nat.reduceBEq, Nat.reduceLeDiff, Nat.reduceLT]
 apply QD a2 a3
 intro a2 a3
 simp -dsimp +contextual only [↓evA, eZ, Nat.reduceAdd, Nat.reduceMul, Nat.reduceBEq, Nat.reduceLeDiff, Nat.reduceLT]
 try simp only [Js, eY]
 all_goals rfl
theorem Qlv (a2) {R1 a} [H1 : EncL Qv R1 a] : CP T (n + 2) 78 [.imm 8 R1, .i .i64 a2] = (QbU a a2).map fun r => .i .i64 r := by
 obtain ⟨rfl⟩ := H1
 rw [Qc]
 simp -dsimp +contextual only [↓evA, eZ, Nat.reduceAdd, Nat.reduceMul, Nat.reduceBEq, Nat.reduceLeDiff, Nat.reduceLT, Tryz.func78, Tryz.f78, a78, n78, Qic]
 try simp only [QbU, eY]
 all_goals rfl
theorem Qik (k i) {R1 a} [H1 : EncL Vf R1 a] : LP T (n + 1) 170 2 (frm [(0, .imm 2 R1), (1, .i .i64 k), (5, .i .i64 i)]) [] =
  VR (run (Jl a) (k, i)) (fun (zr : Int) => (XE.ret, frm [(4, .i .i64 zr)], [])) (fun (zr : Int) => (XE.exit 0, frm [(1, .i .i64 zr)], [])) := by
 obtain ⟨rfl⟩ := H1
 rw [Qn]
 simp -dsimp only [↓evA, evB, Qf, Tryz.func170, Tryz.f170, QJe, QzJ, TP, TZ, Nat.reduceAdd, Nat.reduceMul, Nat.reduceBEq, Nat.reduceLeDiff, Nat.reduceLT]
 apply QD k i
 intro k i
 simp -dsimp +contextual only [↓evA, eZ, Nat.reduceAdd, Nat.reduceMul, Nat.reduceBEq, Nat.reduceLeDiff, Nat.reduceLT]
 try simp only [Jl, eY]
 all_goals rfl
theorem Qk7 (k) {R1 a} [H1 : EncL Vf R1 a] : CP T (n + 2) 170 [.imm 2 R1, .i .i64 k] = (QbC a k).map fun r => .i .i64 r := by
 obtain ⟨rfl⟩ := H1
 rw [Qc]
 simp -dsimp +contextual only [↓evA, eZ, Nat.reduceAdd, Nat.reduceMul, Nat.reduceBEq, Nat.reduceLeDiff, Nat.reduceLT, Tryz.func170, Tryz.f170, QJe, QzJ, Qik]
 try simp only [QbC, eY]
 all_goals rfl
theorem QgQ (k i) {R1 a} [H1 : EncL QH R1 a] : LP T (n + 3) 79 2 (frm [(0, .imm 3 R1), (1, .i .i64 k), (5, .i .i64 i)]) [] =
  VR (run (Xx a) (k, i)) (fun (zr : Int) => (XE.ret, frm [(4, .i .i64 zr)], [])) (fun (zr : Int) => (XE.exit 0, frm [(1, .i .i64 zr)], [])) := by
 obtain ⟨rfl⟩ := H1
 rw [Qn]
 simp -dsimp only [↓evA, evB, Qf, Tryz.func79, Tryz.f79, a79, n79, TP, TZ, Nat.reduceAdd, Nat.reduceMul, Nat.reduceBEq, Nat.reduceLeDiff, Nat.reduceLT]
 apply QD k i
 intro k i
 simp -dsimp +contextual only [↓evA, eZ, Nat.reduceAdd, Nat.reduceMul, Nat.reduceBEq, Nat.reduceLeDiff, Nat.reduceLT, Qk7]
 try simp only [Xx, eY]
 all_goals rfl
theorem Qi2 (k) {R1 a} [H1 : EncL QH R1 a] : CP T (n + 4) 79 [.imm 3 R1, .i .i64 k] = (Qaz a k).map fun r => .i .i64 r := by
 obtain ⟨rfl⟩ := H1
 rw [Qc]
 simp -dsimp +contextual only [↓evA, eZ, Nat.reduceAdd, Nat.reduceMul, Nat.reduceBEq, Nat.reduceLeDiff, Nat.reduceLT, Tryz.func79, Tryz.f79, a79, n79, QgQ]
 try simp only [Qaz, eY]
 all_goals rfl
theorem Qir (k i) {R1 a} [H1 : EncL QL R1 a] : LP T (n + 1) 80 2 (frm [(0, .imm 3 R1), (1, .i .i64 k), (5, .i .i64 i)]) [] =
  VR (run (Jm a) (k, i)) (fun (zr : Int) => (XE.ret, frm [(4, .i .i64 zr)], [])) (fun (zr : Int) => (XE.exit 0, frm [(1, .i .i64 zr)], [])) := by
 obtain ⟨rfl⟩ := H1
 rw [Qn]
 simp -dsimp only [↓evA, evB, Qf, Tryz.func80, Tryz.f80, a80, n80, TP, TZ, Nat.reduceAdd, Nat.reduceMul, Nat.reduceBEq, Nat.reduceLeDiff, Nat.reduceLT]
 apply QD k i
 intro k i
 simp -dsimp +contextual only [↓evA, eZ, Nat.reduceAdd, Nat.reduceMul, Nat.reduceBEq, Nat.reduceLeDiff, Nat.reduceLT]
 try simp only [Jm, eY]
 all_goals rfl
theorem QlB (k) {R1 a} [H1 : EncL QL R1 a] : CP T (n + 2) 80 [.imm 3 R1, .i .i64 k] = (QbM a k).map fun r => .i .i64 r := by
 obtain ⟨rfl⟩ := H1
 rw [Qc]
 simp -dsimp +contextual only [↓evA, eZ, Nat.reduceAdd, Nat.reduceMul, Nat.reduceBEq, Nat.reduceLeDiff, Nat.reduceLT, Tryz.func80, Tryz.f80, a80, n80, Qir]
 try simp only [QbM, eY]
 all_goals rfl
theorem QhF (k i) {R1 a} [H1 : EncL Qg R1 a] : LP T (n + 1) 81 2 (frm [(0, .imm 5 R1), (1, .i .i64 k), (5, .i .i64 i)]) [] =
  VR (run (XK a) (k, i)) (fun (zr : Int) => (XE.ret, frm [(4, .i .i64 zr)], [])) (fun (zr : Int) => (XE.exit 0, frm [(1, .i .i64 zr)], [])) := by
 obtain ⟨rfl⟩ := H1
 rw [Qn]
 simp -dsimp only [↓evA, evB, Qf, Tryz.func81, Tryz.f81, a81, n81, TP, TZ, Nat.reduceAdd, Nat.reduceMul, Nat.reduceBEq, Nat.reduceLeDiff, Nat.reduceLT]
 apply QD k i
 intro k i
 simp -dsimp +contextual only [↓evA, eZ, Nat.reduceAdd, Nat.reduceMul, Nat.reduceBEq, Nat.reduceLeDiff, Nat.reduceLT]
 try simp only [XK, eY]
 all_goals rfl
theorem QjW (k) {R1 a} [H1 : EncL Qg R1 a] : CP T (n + 2) 81 [.imm 5 R1, .i .i64 k] = (QaR a k).map fun r => .i .i64 r := by
 obtain ⟨rfl⟩ := H1
 rw [Qc]
 simp -dsimp +contextual only [↓evA, eZ, Nat.reduceAdd, Nat.reduceMul, Nat.reduceBEq, Nat.reduceLeDiff, Nat.reduceLT, Tryz.func81, Tryz.f81, a81, n81, QhF]
 try simp only [QaR, eY]
 all_goals rfl
theorem Qhm (k i) {R1 a} [H1 : EncL QA R1 a] : LP T (n + 1) 82 2 (frm [(0, .imm 4 R1), (1, .i .i64 k), (5, .i .i64 i)]) [] =
  VR (run (XL a) (k, i)) (fun (zr : Int) => (XE.ret, frm [(4, .i .i64 zr)], [])) (fun (zr : Int) => (XE.exit 0, frm [(1, .i .i64 zr)], [])) := by
 obtain ⟨rfl⟩ := H1
 rw [Qn]
 simp -dsimp only [↓evA, evB, Qf, Tryz.func82, Tryz.f82, a82, n82, TP, TZ, Nat.reduceAdd, Nat.reduceMul, Nat.reduceBEq, Nat.reduceLeDiff, Nat.reduceLT]
 apply QD k i
 intro k i
 simp -dsimp +contextual only [↓evA, eZ, Nat.reduceAdd, Nat.reduceMul, Nat.reduceBEq, Nat.reduceLeDiff, Nat.reduceLT]
 try simp only [XL, eY]
 all_goals rfl
theorem QjD (k) {R1 a} [H1 : EncL QA R1 a] : CP T (n + 2) 82 [.imm 4 R1, .i .i64 k] = (Qbb a k).map fun r => .i .i64 r := by
 obtain ⟨rfl⟩ := H1
 rw [Qc]
 simp -dsimp +contextual only [↓evA, eZ, Nat.reduceAdd, Nat.reduceMul, Nat.reduceBEq, Nat.reduceLeDiff, Nat.reduceLT, Tryz.func82, Tryz.f82, a82, n82, Qhm]
 try simp only [Qbb, eY]
 all_goals rfl
theorem Qin (k i) {R1 a} [H1 : EncL Q1 R1 a] : LP T (n + 1) 83 2 (frm [(0, .imm 5 R1), (1, .i .i64 k), (5, .i .i64 i)]) [] =
  VR (run (Ja a) (k, i)) (fun (zr : Int) => (XE.ret, frm [(4, .i .i64 zr)], [])) (fun (zr : Int) => (XE.exit 0, frm [(1, .i .i64 zr)], [])) := by
 obtain ⟨rfl⟩ := H1
 rw [Qn]
 simp -dsimp only [↓evA, evB, Qf, Tryz.func83, Tryz.f83, a83, n83, TP, TZ, Nat.reduceAdd, Nat.reduceMul, Nat.reduceBEq, Nat.reduceLeDiff, Nat.reduceLT]
 apply QD k i
 intro k i
 simp -dsimp +contextual only [↓evA, eZ, Nat.reduceAdd, Nat.reduceMul, Nat.reduceBEq, Nat.reduceLeDiff, Nat.reduceLT]
 try simp only [Ja, eY]
 all_goals rfl
theorem QlM (k) {R1 a} [H1 : EncL Q1 R1 a] : CP T (n + 2) 83 [.imm 5 R1, .i .i64 k] = (QbA a k).map fun r => .i .i64 r := by
 obtain ⟨rfl⟩ := H1
 rw [Qc]
 simp -dsimp +contextual only [↓evA, eZ, Nat.reduceAdd, Nat.reduceMul, Nat.reduceBEq, Nat.reduceLeDiff, Nat.reduceLT, Tryz.func83, Tryz.f83, a83, n83, Qin]
 try simp only [QbA, eY]
 all_goals rfl
theorem Qhj (k i) {R1 a} [H1 : EncL QK R1 a] : LP T (n + 1) 84 2 (frm [(0, .imm 4 R1), (1, .i .i64 k), (5, .i .i64 i)]) [] =
  VR (run (XQ a) (k, i)) (fun (zr : Int) => (XE.ret, frm [(4, .i .i64 zr)], [])) (fun (zr : Int) => (XE.exit 0, frm [(1, .i .i64 zr)], [])) := by
 obtain ⟨rfl⟩ := H1
 rw [Qn]
 simp -dsimp only [↓evA, evB, Qf, Tryz.func84, Tryz.f84, a84, n84, TP, TZ, Nat.reduceAdd, Nat.reduceMul, Nat.reduceBEq, Nat.reduceLeDiff, Nat.reduceLT]
 apply QD k i
 intro k i
 simp -dsimp +contextual only [↓evA, eZ, Nat.reduceAdd, Nat.reduceMul, Nat.reduceBEq, Nat.reduceLeDiff, Nat.reduceLT]
 try simp only [XQ, eY]
 all_goals rfl
theorem QjN (k) {R1 a} [H1 : EncL QK R1 a] : CP T (n + 2) 84 [.imm 4 R1, .i .i64 k] = (Qba a k).map fun r => .i .i64 r := by
 obtain ⟨rfl⟩ := H1
 rw [Qc]
 simp -dsimp +contextual only [↓evA, eZ, Nat.reduceAdd, Nat.reduceMul, Nat.reduceBEq, Nat.reduceLeDiff, Nat.reduceLT, Tryz.func84, Tryz.f84, a84, n84, Qhj]
 try simp only [Qba, eY]
 all_goals rfl
theorem Qlb (k) {R1 a} [H1 : EncR QC R1 a] : CP T (n + 5) 21 [.agg R1, .i .i64 k] = (Zh a k).map fun r => .i .i64 r := by
 obtain ⟨rfl⟩ := H1
 rw [Qc]
 simp -dsimp +contextual (maxSteps := 100000000) only [↓evA, eZ, Nat.reduceAdd, Nat.reduceMul, Nat.reduceBEq, Nat.reduceLeDiff, Nat.reduceLT, Tryz.func21, Tryz.f21, a21, n21, Qlv, Qi2, QlB, QjW, QjD, QlM, QjN]
 try simp only [Zh, eY]
 all_goals rfl
theorem QfZ {R1 a R2 a2} [H1 : EncR QC R1 a] [H2 : EncL XB R2 a2] : CP T (n + 17) 12 [.agg R1, .imm 14 R2] = (Zk a a2).map fun r => .b r := by
 rcases H1, H2 with ⟨⟨rfl⟩, ⟨rfl⟩⟩
 rw [Qc]
 simp -dsimp +contextual (maxSteps := 100000000) only [↓evA, eZ, Nat.reduceAdd, Nat.reduceMul, Nat.reduceBEq, Nat.reduceLeDiff, Nat.reduceLT, Tryz.func12, Tryz.f12, a12, n12, srt, Qnt, Qm7, QoM, QmN, QlC, Qly, Qnx, QmM, QlS, QkK, Qlb]
 try simp only [Zk, eY]
 all_goals rfl
end Go.Proofs.YtcdffihcfeajfaaGreat
