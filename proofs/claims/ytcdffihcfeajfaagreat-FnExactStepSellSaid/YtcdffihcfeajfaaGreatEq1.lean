import Derived.Test.YtcdffihcfeajfaaGreatEc
namespace Go.Proofs.YtcdffihcfeajfaaGreat
open Go Go.Proofs Go.Proofs.YtcdffihcfeajfaaGreat.Am
set_option maxHeartbeats 4000000
set_option linter.unusedVariables false
set_option linter.unusedSimpArgs false
set_option linter.defProp false
set_option maxRecDepth 100000
theorem Qkn (n : Nat) {R1} {a : List Find} (left : Int) [H1 : EncL Qp R1 a] : CP T (n + 1) 85 [.imm 8 R1, .i .i64 left] = (QbA a left).map fun r => .i .i64 r := by
 obtain ⟨rfl⟩ := H1
 rw [Qd]
 simp -dsimp +contextual only [↓evA, eZ, Nat.reduceAdd, Nat.reduceMul, Nat.reduceBEq, Nat.reduceLeDiff, Nat.reduceLT, Tryz.func85, Tryz.f85, a85]
 try simp only [QbA, eY]
 all_goals rfl
theorem Qki (n : Nat) {R1} {a : List Mark} (left : Int) [H1 : EncL Q4 R1 a] : CP T (n + 1) 34 [.imm 2 R1, .i .i64 left] = (QbR a left).map fun r => .i .i64 r := by
 obtain ⟨rfl⟩ := H1
 rw [Qd]
 simp -dsimp +contextual only [↓evA, eZ, Nat.reduceAdd, Nat.reduceMul, Nat.reduceBEq, Nat.reduceLeDiff, Nat.reduceLT, Tryz.func34, Tryz.f34, a34]
 try simp only [QbR, eY]
 all_goals rfl
theorem QjD (n : Nat) (axThing : Int) {R1} {axMarks : List Mark} (axSalt : Int) (left : Int) [H1 : EncL Q4 R1 axMarks] : CP T (n + 2) 171 [.agg [.i .i64 axThing, .imm 2 R1, .i .i64 axSalt], .i .i64 left] = (ZX (⟨axThing, axMarks, axSalt⟩ : Secret) left).map fun r => .i .i64 r := by
 obtain ⟨rfl⟩ := H1
 rw [Qd]
 simp -dsimp +contextual only [↓evA, eZ, Nat.reduceAdd, Nat.reduceMul, Nat.reduceBEq, Nat.reduceLeDiff, Nat.reduceLT, Tryz.func171, Tryz.f171, QNH, Qki]
 try simp only [ZX, eY]
 all_goals rfl
theorem Qf1 (n : Nat) {R1} {a : List Secret} (left : Int) (i : Int) [H1 : EncL Qe R1 a] : LP T (n + 3) 86 5 (frm [(0, .imm 3 R1), (1, .i .i64 left), (5, .i .i64 i)]) [] =
  VC (run (Xl a) (left, i)) (fun (zr : Int) => (XE.ret, frm [(4, .i .i64 zr)], [])) (fun (zr : Int) => (XE.exit 0, frm [(1, .i .i64 zr)], [])) := by
 obtain ⟨rfl⟩ := H1
 rw [Qr]
 simp -dsimp only [↓evA, evB, Qj, Tryz.func86, Tryz.f86, a86, TP, TZ, Nat.reduceAdd, Nat.reduceMul, Nat.reduceBEq, Nat.reduceLeDiff, Nat.reduceLT]
 refine run_map (fun (zs : Int × Int) => (frm [(0, .imm 3 (a.map Qe)), (1, .i .i64 zs.1), (5, .i .i64 zs.2)], [])) (evO (fun (zr : Int) => (XE.ret, frm [(4, .i .i64 zr)], [])) (fun (zr : Int) => (XE.exit 0, frm [(1, .i .i64 zr)], []))) ?_ (left, i)
 rintro ⟨left, i⟩
 simp -dsimp +contextual only [↓evA, eZ, Nat.reduceAdd, Nat.reduceMul, Nat.reduceBEq, Nat.reduceLeDiff, Nat.reduceLT, QjD]
 try simp only [Xl, eY]
 all_goals rfl
theorem Qil (n : Nat) {R1} {a : List Secret} (left : Int) [H1 : EncL Qe R1 a] : CP T (n + 4) 86 [.imm 3 R1, .i .i64 left] = (Qaf a left).map fun r => .i .i64 r := by
 obtain ⟨rfl⟩ := H1
 rw [Qd]
 simp -dsimp +contextual only [↓evA, eZ, Nat.reduceAdd, Nat.reduceMul, Nat.reduceBEq, Nat.reduceLeDiff, Nat.reduceLT, Tryz.func86, Tryz.f86, a86, Qf1]
 try simp only [Qaf, eY]
 all_goals rfl
theorem QkP (n : Nat) {R1} {a : List Slot} (left : Int) [H1 : EncL Qm R1 a] : CP T (n + 1) 13 [.imm 3 R1, .i .i64 left] = (Qbw a left).map fun r => .i .i64 r := by
 obtain ⟨rfl⟩ := H1
 rw [Qd]
 simp -dsimp +contextual only [↓evA, eZ, Nat.reduceAdd, Nat.reduceMul, Nat.reduceBEq, Nat.reduceLeDiff, Nat.reduceLT, Tryz.func13, Tryz.f13, a13]
 try simp only [Qbw, eY]
 all_goals rfl
theorem Qjn (n : Nat) {R1} {a : List Claim} (left : Int) [H1 : EncL Qc R1 a] : CP T (n + 1) 87 [.imm 5 R1, .i .i64 left] = (QaN a left).map fun r => .i .i64 r := by
 obtain ⟨rfl⟩ := H1
 rw [Qd]
 simp -dsimp +contextual only [↓evA, eZ, Nat.reduceAdd, Nat.reduceMul, Nat.reduceBEq, Nat.reduceLeDiff, Nat.reduceLT, Tryz.func87, Tryz.f87, a87]
 try simp only [QaN, eY]
 all_goals rfl
theorem Qjy (n : Nat) {R1} {a : List Trial} (left : Int) [H1 : EncL Qk R1 a] : CP T (n + 1) 88 [.imm 4 R1, .i .i64 left] = (QaV a left).map fun r => .i .i64 r := by
 obtain ⟨rfl⟩ := H1
 rw [Qd]
 simp -dsimp +contextual only [↓evA, eZ, Nat.reduceAdd, Nat.reduceMul, Nat.reduceBEq, Nat.reduceLeDiff, Nat.reduceLT, Tryz.func88, Tryz.f88, a88]
 try simp only [QaV, eY]
 all_goals rfl
theorem QlC (n : Nat) {R1} {a : List Hand} (left : Int) [H1 : EncL Qn R1 a] : CP T (n + 1) 89 [.imm 5 R1, .i .i64 left] = (QbK a left).map fun r => .i .i64 r := by
 obtain ⟨rfl⟩ := H1
 rw [Qd]
 simp -dsimp +contextual only [↓evA, eZ, Nat.reduceAdd, Nat.reduceMul, Nat.reduceBEq, Nat.reduceLeDiff, Nat.reduceLT, Tryz.func89, Tryz.f89, a89]
 try simp only [QbK, eY]
 all_goals rfl
theorem QjB (n : Nat) {R1} {a : List Entry} (left : Int) [H1 : EncL Qh R1 a] : CP T (n + 1) 90 [.imm 4 R1, .i .i64 left] = (QaU a left).map fun r => .i .i64 r := by
 obtain ⟨rfl⟩ := H1
 rw [Qd]
 simp -dsimp +contextual only [↓evA, eZ, Nat.reduceAdd, Nat.reduceMul, Nat.reduceBEq, Nat.reduceLeDiff, Nat.reduceLT, Tryz.func90, Tryz.f90, a90]
 try simp only [QaU, eY]
 all_goals rfl
theorem Qkd (n : Nat) (axNo : Int) {R1} {axFinds : List Find} {R2} {axSecrets : List Secret} {R3} {axSlots : List Slot} {R4} {axClaims : List Claim} {R5} {axTrials : List Trial} {R6} {axChain : List Hand} {R7} {axBook : List Entry} (axNow : Int) (left : Int) [H1 : EncL Qp R1 axFinds] [H2 : EncL Qe R2 axSecrets] [H3 : EncL Qm R3 axSlots] [H4 : EncL Qc R4 axClaims] [H5 : EncL Qk R5 axTrials] [H6 : EncL Qn R6 axChain] [H7 : EncL Qh R7 axBook] : CP T (n + 5) 22 [.agg [.i .i64 axNo, .imm 8 R1, .imm 3 R2, .imm 3 R3, .imm 5 R4, .imm 4 R5, .imm 5 R6, .imm 4 R7, .i .i64 axNow], .i .i64 left] = (QbP (⟨axNo, axFinds, axSecrets, axSlots, axClaims, axTrials, axChain, axBook, axNow⟩ : House) left).map fun r => .i .i64 r := by
 rcases H1, H2, H3, H4, H5, H6, H7 with ⟨⟨rfl⟩, ⟨rfl⟩, ⟨rfl⟩, ⟨rfl⟩, ⟨rfl⟩, ⟨rfl⟩, ⟨rfl⟩⟩
 rw [Qd]
 simp -dsimp +contextual (maxSteps := 100000000) only [↓evA, eZ, Nat.reduceAdd, Nat.reduceMul, Nat.reduceBEq, Nat.reduceLeDiff, Nat.reduceLT, Tryz.func22, Tryz.f22, a22, Qkn, Qil, QkP, Qjn, Qjy, QlC, QjB]
 try simp only [QbP, eY]
 all_goals rfl
theorem Qmg (n : Nat) {R1} {a : List Bid} (left : Int) [H1 : EncL QY R1 a] : CP T (n + 1) 41 [.imm 3 R1, .i .i64 left] = (Qcs a left).map fun r => .i .i64 r := by
 obtain ⟨rfl⟩ := H1
 rw [Qd]
 simp -dsimp +contextual only [↓evA, eZ, Nat.reduceAdd, Nat.reduceMul, Nat.reduceBEq, Nat.reduceLeDiff, Nat.reduceLT, Tryz.func41, Tryz.f41, a41]
 try simp only [Qcs, eY]
 all_goals rfl
theorem Qk6 (n : Nat) (axId : Int) (axKind : Int) (axColour : Int) (axSize : Int) (axWorth : Int) : CP T (n + 1) 133 [.agg [.i .i64 axId, .i .i64 axKind, .i .i64 axColour, .i .i64 axSize, .i .i64 axWorth]] = (QaC (⟨axId, axKind, axColour, axSize, axWorth⟩ : Thing)).map fun r => .agg (QgB r) := by
 rw [Qd]
 simp -dsimp +contextual only [↓evA, eZ, Nat.reduceAdd, Nat.reduceMul, Nat.reduceBEq, Nat.reduceLeDiff, Nat.reduceLT, Tryz.func133, Tryz.f133, QLL]
 try simp only [QaC, eY]
 all_goals rfl
theorem Ql2 (n : Nat) (axThingxId : Int) (axThingxKind : Int) (axThingxColour : Int) (axThingxSize : Int) (axThingxWorth : Int) (axPlace : Int) (axAt : Int) (axFinder : Int) : CP T (n + 2) 36 [.agg [.i .i64 axThingxId, .i .i64 axThingxKind, .i .i64 axThingxColour, .i .i64 axThingxSize, .i .i64 axThingxWorth, .i .i64 axPlace, .i .i64 axAt, .i .i64 axFinder]] = (Qbk (⟨⟨axThingxId, axThingxKind, axThingxColour, axThingxSize, axThingxWorth⟩, axPlace, axAt, axFinder⟩ : Find)).map fun r => .agg (Qp r) := by
 rw [Qd]
 simp -dsimp +contextual only [↓evA, eZ, Nat.reduceAdd, Nat.reduceMul, Nat.reduceBEq, Nat.reduceLeDiff, Nat.reduceLT, Tryz.func36, Tryz.f36, a36, Qk6]
 try simp only [Qbk, eY]
 all_goals rfl
theorem QgL (n : Nat) {R1} {a : List Find} {R2} {out : List Find} (i : Int) [H1 : EncL Qp R1 a] [H2 : EncL Qp R2 out] : LP T (n + 3) 93 3 (frm [(0, .imm 8 R1), (3, .sl 0), (4, .i .i64 i)]) [some (Ent.lst 8 R2)] =
  (run (Jp a) (out, i)).map (fun (zr : (List Find)) => (XE.exit 0, frm [(3, .sl 0)], [some (Ent.lst 8 (zr.map Qp))])) := by
 rcases H1, H2 with ⟨⟨rfl⟩, ⟨rfl⟩⟩
 rw [Qr]
 simp -dsimp only [↓evA, evB, Qj, Tryz.func93, Tryz.f93, a93, TP, TZ, Nat.reduceAdd, Nat.reduceMul, Nat.reduceBEq, Nat.reduceLeDiff, Nat.reduceLT]
 refine run_map (fun (zs : (List Find) × Int) => (frm [(0, .imm 8 (a.map Qp)), (3, .sl 0), (4, .i .i64 zs.2)], [some (Ent.lst 8 (zs.1.map Qp))])) (fun (zr : (List Find)) => (XE.exit 0, frm [(3, .sl 0)], [some (Ent.lst 8 (zr.map Qp))])) ?_ (out, i)
 rintro ⟨out, i⟩
 simp -dsimp +contextual only [↓evA, eZ, Nat.reduceAdd, Nat.reduceMul, Nat.reduceBEq, Nat.reduceLeDiff, Nat.reduceLT, Ql2]
 try simp only [Jp, eY]
 all_goals rfl
theorem QkR (n : Nat) {R1} {a : List Find} [H1 : EncL Qp R1 a] : CP T (n + 4) 93 [.imm 8 R1] = (QbH a).map fun r => .own 8 (r.map Qp) := by
 obtain ⟨rfl⟩ := H1
 rw [Qd]
 simp -dsimp +contextual only [↓evA, eZ, Nat.reduceAdd, Nat.reduceMul, Nat.reduceBEq, Nat.reduceLeDiff, Nat.reduceLT, Tryz.func93, Tryz.f93, a93, QgL]
 try simp only [QbH, eY]
 all_goals first | rfl | (simp +contextual only [evN] <;> rfl)
theorem QlQ (n : Nat) (axQuestion : Int) (axAnswer : Int) : CP T (n + 1) 134 [.agg [.i .i64 axQuestion, .i .i64 axAnswer]] = (Qbc (⟨axQuestion, axAnswer⟩ : Mark)).map fun r => .agg (Q4 r) := by
 rw [Qd]
 simp -dsimp +contextual only [↓evA, eZ, Nat.reduceAdd, Nat.reduceMul, Nat.reduceBEq, Nat.reduceLeDiff, Nat.reduceLT, Tryz.func134, Tryz.f134, QQ0]
 try simp only [Qbc, eY]
 all_goals rfl
theorem QhF (n : Nat) {R1} {a : List Mark} {R2} {out : List Mark} (i : Int) [H1 : EncL Q4 R1 a] [H2 : EncL Q4 R2 out] : LP T (n + 2) 37 3 (frm [(0, .imm 2 R1), (3, .sl 0), (4, .i .i64 i)]) [some (Ent.lst 2 R2)] =
  (run (Ju a) (out, i)).map (fun (zr : (List Mark)) => (XE.exit 0, frm [(3, .sl 0)], [some (Ent.lst 2 (zr.map Q4))])) := by
 rcases H1, H2 with ⟨⟨rfl⟩, ⟨rfl⟩⟩
 rw [Qr]
 simp -dsimp only [↓evA, evB, Qj, Tryz.func37, Tryz.f37, a37, TP, TZ, Nat.reduceAdd, Nat.reduceMul, Nat.reduceBEq, Nat.reduceLeDiff, Nat.reduceLT]
 refine run_map (fun (zs : (List Mark) × Int) => (frm [(0, .imm 2 (a.map Q4)), (3, .sl 0), (4, .i .i64 zs.2)], [some (Ent.lst 2 (zs.1.map Q4))])) (fun (zr : (List Mark)) => (XE.exit 0, frm [(3, .sl 0)], [some (Ent.lst 2 (zr.map Q4))])) ?_ (out, i)
 rintro ⟨out, i⟩
 simp -dsimp +contextual only [↓evA, eZ, Nat.reduceAdd, Nat.reduceMul, Nat.reduceBEq, Nat.reduceLeDiff, Nat.reduceLT, QlQ]
 try simp only [Ju, eY]
 all_goals rfl
theorem Qlt (n : Nat) {R1} {a : List Mark} [H1 : EncL Q4 R1 a] : CP T (n + 3) 37 [.imm 2 R1] = (Qbs a).map fun r => .own 2 (r.map Q4) := by
 obtain ⟨rfl⟩ := H1
 rw [Qd]
 simp -dsimp +contextual only [↓evA, eZ, Nat.reduceAdd, Nat.reduceMul, Nat.reduceBEq, Nat.reduceLeDiff, Nat.reduceLT, Tryz.func37, Tryz.f37, a37, QhF]
 try simp only [Qbs, eY]
 all_goals first | rfl | (simp +contextual only [evN] <;> rfl)
theorem Qjx (n : Nat) (axThing : Int) {R1} {axMarks : List Mark} (axSalt : Int) [H1 : EncL Q4 R1 axMarks] : CP T (n + 4) 172 [.agg [.i .i64 axThing, .imm 2 R1, .i .i64 axSalt]] = (ZW (⟨axThing, axMarks, axSalt⟩ : Secret)).map fun r => .agg (QS r) := by
 obtain ⟨rfl⟩ := H1
 rw [Qd]
 simp -dsimp +contextual only [↓evA, eZ, Nat.reduceAdd, Nat.reduceMul, Nat.reduceBEq, Nat.reduceLeDiff, Nat.reduceLT, Tryz.func172, Tryz.f172, QLt, Qlt]
 try simp only [ZW, eY]
 all_goals rfl
theorem QfZ (n : Nat) {R1} {a : List Secret} {R2} {out : List Secret} (i : Int) [H1 : EncL Qe R1 a] [H2 : EncL QS R2 out] : LP T (n + 5) 94 3 (frm [(0, .imm 3 R1), (3, .sl 0), (4, .i .i64 i)]) [some (Ent.lst 3 R2)] =
  (run (Xn a) (out, i)).map (fun (zr : (List Secret)) => (XE.exit 0, frm [(3, .sl 0)], [some (Ent.lst 3 (zr.map QS))])) := by
 rcases H1, H2 with ⟨⟨rfl⟩, ⟨rfl⟩⟩
 rw [Qr]
 simp -dsimp only [↓evA, evB, Qj, Tryz.func94, Tryz.f94, a94, TP, TZ, Nat.reduceAdd, Nat.reduceMul, Nat.reduceBEq, Nat.reduceLeDiff, Nat.reduceLT]
 refine run_map (fun (zs : (List Secret) × Int) => (frm [(0, .imm 3 (a.map Qe)), (3, .sl 0), (4, .i .i64 zs.2)], [some (Ent.lst 3 (zs.1.map QS))])) (fun (zr : (List Secret)) => (XE.exit 0, frm [(3, .sl 0)], [some (Ent.lst 3 (zr.map QS))])) ?_ (out, i)
 rintro ⟨out, i⟩
 simp -dsimp +contextual only [↓evA, eZ, Nat.reduceAdd, Nat.reduceMul, Nat.reduceBEq, Nat.reduceLeDiff, Nat.reduceLT, Qjx]
 try simp only [Xn, eY]
 all_goals rfl
theorem Qiw (n : Nat) {R1} {a : List Secret} [H1 : EncL Qe R1 a] : CP T (n + 6) 94 [.imm 3 R1] = (Z6 a).map fun r => .own 3 (r.map QS) := by
 obtain ⟨rfl⟩ := H1
 rw [Qd]
 simp -dsimp +contextual only [↓evA, eZ, Nat.reduceAdd, Nat.reduceMul, Nat.reduceBEq, Nat.reduceLeDiff, Nat.reduceLT, Tryz.func94, Tryz.f94, a94, QfZ]
 try simp only [Z6, eY]
 all_goals first | rfl | (simp +contextual only [evN] <;> rfl)
theorem Ql0 (n : Nat) (axId : Int) (axSize : Int) (axThing : Int) : CP T (n + 1) 62 [.agg [.i .i64 axId, .i .i64 axSize, .i .i64 axThing]] = (Qbi (⟨axId, axSize, axThing⟩ : Slot)).map fun r => .agg (Qm r) := by
 rw [Qd]
 simp -dsimp +contextual only [↓evA, eZ, Nat.reduceAdd, Nat.reduceMul, Nat.reduceBEq, Nat.reduceLeDiff, Nat.reduceLT, Tryz.func62, Tryz.f62, a62]
 try simp only [Qbi, eY]
 all_goals rfl
theorem Qhn (n : Nat) {R1} {a : List Slot} {R2} {out : List Slot} (i : Int) [H1 : EncL Qm R1 a] [H2 : EncL Qm R2 out] : LP T (n + 2) 15 3 (frm [(0, .imm 3 R1), (3, .sl 0), (4, .i .i64 i)]) [some (Ent.lst 3 R2)] =
  (run (Js a) (out, i)).map (fun (zr : (List Slot)) => (XE.exit 0, frm [(3, .sl 0)], [some (Ent.lst 3 (zr.map Qm))])) := by
 rcases H1, H2 with ⟨⟨rfl⟩, ⟨rfl⟩⟩
 rw [Qr]
 simp -dsimp only [↓evA, evB, Qj, Tryz.func15, Tryz.f15, a15, TP, TZ, Nat.reduceAdd, Nat.reduceMul, Nat.reduceBEq, Nat.reduceLeDiff, Nat.reduceLT]
 refine run_map (fun (zs : (List Slot) × Int) => (frm [(0, .imm 3 (a.map Qm)), (3, .sl 0), (4, .i .i64 zs.2)], [some (Ent.lst 3 (zs.1.map Qm))])) (fun (zr : (List Slot)) => (XE.exit 0, frm [(3, .sl 0)], [some (Ent.lst 3 (zr.map Qm))])) ?_ (out, i)
 rintro ⟨out, i⟩
 simp -dsimp +contextual only [↓evA, eZ, Nat.reduceAdd, Nat.reduceMul, Nat.reduceBEq, Nat.reduceLeDiff, Nat.reduceLT, Ql0]
 try simp only [Js, eY]
 all_goals rfl
theorem QkY (n : Nat) {R1} {a : List Slot} [H1 : EncL Qm R1 a] : CP T (n + 3) 15 [.imm 3 R1] = (QbW a).map fun r => .own 3 (r.map Qm) := by
 obtain ⟨rfl⟩ := H1
 rw [Qd]
 simp -dsimp +contextual only [↓evA, eZ, Nat.reduceAdd, Nat.reduceMul, Nat.reduceBEq, Nat.reduceLeDiff, Nat.reduceLT, Tryz.func15, Tryz.f15, a15, Qhn]
 try simp only [QbW, eY]
 all_goals first | rfl | (simp +contextual only [evN] <;> rfl)
theorem QlA (n : Nat) (axId : Int) (axWho : Int) (axThing : Int) (axAt : Int) (axState : Int) : CP T (n + 1) 173 [.agg [.i .i64 axId, .i .i64 axWho, .i .i64 axThing, .i .i64 axAt, .i .i64 axState]] = (Qaz (⟨axId, axWho, axThing, axAt, axState⟩ : Claim)).map fun r => .agg (Qc r) := by
 rw [Qd]
 simp -dsimp +contextual only [↓evA, eZ, Nat.reduceAdd, Nat.reduceMul, Nat.reduceBEq, Nat.reduceLeDiff, Nat.reduceLT, Tryz.func173, Tryz.f173, QQE]
 try simp only [Qaz, eY]
 all_goals rfl
theorem Qga (n : Nat) {R1} {a : List Claim} {R2} {out : List Claim} (i : Int) [H1 : EncL Qc R1 a] [H2 : EncL Qc R2 out] : LP T (n + 2) 95 3 (frm [(0, .imm 5 R1), (3, .sl 0), (4, .i .i64 i)]) [some (Ent.lst 5 R2)] =
  (run (X9 a) (out, i)).map (fun (zr : (List Claim)) => (XE.exit 0, frm [(3, .sl 0)], [some (Ent.lst 5 (zr.map Qc))])) := by
 rcases H1, H2 with ⟨⟨rfl⟩, ⟨rfl⟩⟩
 rw [Qr]
 simp -dsimp only [↓evA, evB, Qj, Tryz.func95, Tryz.f95, a95, TP, TZ, Nat.reduceAdd, Nat.reduceMul, Nat.reduceBEq, Nat.reduceLeDiff, Nat.reduceLT]
 refine run_map (fun (zs : (List Claim) × Int) => (frm [(0, .imm 5 (a.map Qc)), (3, .sl 0), (4, .i .i64 zs.2)], [some (Ent.lst 5 (zs.1.map Qc))])) (fun (zr : (List Claim)) => (XE.exit 0, frm [(3, .sl 0)], [some (Ent.lst 5 (zr.map Qc))])) ?_ (out, i)
 rintro ⟨out, i⟩
 simp -dsimp +contextual only [↓evA, eZ, Nat.reduceAdd, Nat.reduceMul, Nat.reduceBEq, Nat.reduceLeDiff, Nat.reduceLT, QlA]
 try simp only [X9, eY]
 all_goals rfl
theorem Qjm (n : Nat) {R1} {a : List Claim} [H1 : EncL Qc R1 a] : CP T (n + 3) 95 [.imm 5 R1] = (QaX a).map fun r => .own 5 (r.map Qc) := by
 obtain ⟨rfl⟩ := H1
 rw [Qd]
 simp -dsimp +contextual only [↓evA, eZ, Nat.reduceAdd, Nat.reduceMul, Nat.reduceBEq, Nat.reduceLeDiff, Nat.reduceLT, Tryz.func95, Tryz.f95, a95, Qga]
 try simp only [QaX, eY]
 all_goals first | rfl | (simp +contextual only [evN] <;> rfl)
theorem Qli (n : Nat) (axClaim : Int) (axAsked : Int) (axRight : Int) (axWrong : Int) : CP T (n + 1) 174 [.agg [.i .i64 axClaim, .i .i64 axAsked, .i .i64 axRight, .i .i64 axWrong]] = (Qas (⟨axClaim, axAsked, axRight, axWrong⟩ : Trial)).map fun r => .agg (Qk r) := by
 rw [Qd]
 simp -dsimp +contextual only [↓evA, eZ, Nat.reduceAdd, Nat.reduceMul, Nat.reduceBEq, Nat.reduceLeDiff, Nat.reduceLT, Tryz.func174, Tryz.f174, QKV]
 try simp only [Qas, eY]
 all_goals rfl
theorem Qgq (n : Nat) {R1} {a : List Trial} {R2} {out : List Trial} (i : Int) [H1 : EncL Qk R1 a] [H2 : EncL Qk R2 out] : LP T (n + 2) 96 3 (frm [(0, .imm 4 R1), (3, .sl 0), (4, .i .i64 i)]) [some (Ent.lst 4 R2)] =
  (run (XZ a) (out, i)).map (fun (zr : (List Trial)) => (XE.exit 0, frm [(3, .sl 0)], [some (Ent.lst 4 (zr.map Qk))])) := by
 rcases H1, H2 with ⟨⟨rfl⟩, ⟨rfl⟩⟩
 rw [Qr]
 simp -dsimp only [↓evA, evB, Qj, Tryz.func96, Tryz.f96, a96, TP, TZ, Nat.reduceAdd, Nat.reduceMul, Nat.reduceBEq, Nat.reduceLeDiff, Nat.reduceLT]
 refine run_map (fun (zs : (List Trial) × Int) => (frm [(0, .imm 4 (a.map Qk)), (3, .sl 0), (4, .i .i64 zs.2)], [some (Ent.lst 4 (zs.1.map Qk))])) (fun (zr : (List Trial)) => (XE.exit 0, frm [(3, .sl 0)], [some (Ent.lst 4 (zr.map Qk))])) ?_ (out, i)
 rintro ⟨out, i⟩
 simp -dsimp +contextual only [↓evA, eZ, Nat.reduceAdd, Nat.reduceMul, Nat.reduceBEq, Nat.reduceLeDiff, Nat.reduceLT, Qli]
 try simp only [XZ, eY]
 all_goals rfl
theorem Qjl (n : Nat) {R1} {a : List Trial} [H1 : EncL Qk R1 a] : CP T (n + 3) 96 [.imm 4 R1] = (QaQ a).map fun r => .own 4 (r.map Qk) := by
 obtain ⟨rfl⟩ := H1
 rw [Qd]
 simp -dsimp +contextual only [↓evA, eZ, Nat.reduceAdd, Nat.reduceMul, Nat.reduceBEq, Nat.reduceLeDiff, Nat.reduceLT, Tryz.func96, Tryz.f96, a96, Qgq]
 try simp only [QaQ, eY]
 all_goals first | rfl | (simp +contextual only [evN] <;> rfl)
theorem QlW (n : Nat) (axThing : Int) (axHolder : Int) (axWho : Int) (axAt : Int) (axSeal : Int) : CP T (n + 1) 175 [.agg [.i .i64 axThing, .i .i64 axHolder, .i .i64 axWho, .i .i64 axAt, .i .i64 axSeal]] = (Qbj (⟨axThing, axHolder, axWho, axAt, axSeal⟩ : Hand)).map fun r => .agg (Qn r) := by
 rw [Qd]
 simp -dsimp +contextual only [↓evA, eZ, Nat.reduceAdd, Nat.reduceMul, Nat.reduceBEq, Nat.reduceLeDiff, Nat.reduceLT, Tryz.func175, Tryz.f175, QOJ]
 try simp only [Qbj, eY]
 all_goals rfl
theorem QhY (n : Nat) {R1} {a : List Hand} {R2} {out : List Hand} (i : Int) [H1 : EncL Qn R1 a] [H2 : EncL Qn R2 out] : LP T (n + 2) 97 3 (frm [(0, .imm 5 R1), (3, .sl 0), (4, .i .i64 i)]) [some (Ent.lst 5 R2)] =
  (run (Jw a) (out, i)).map (fun (zr : (List Hand)) => (XE.exit 0, frm [(3, .sl 0)], [some (Ent.lst 5 (zr.map Qn))])) := by
 rcases H1, H2 with ⟨⟨rfl⟩, ⟨rfl⟩⟩
 rw [Qr]
 simp -dsimp only [↓evA, evB, Qj, Tryz.func97, Tryz.f97, a97, TP, TZ, Nat.reduceAdd, Nat.reduceMul, Nat.reduceBEq, Nat.reduceLeDiff, Nat.reduceLT]
 refine run_map (fun (zs : (List Hand) × Int) => (frm [(0, .imm 5 (a.map Qn)), (3, .sl 0), (4, .i .i64 zs.2)], [some (Ent.lst 5 (zs.1.map Qn))])) (fun (zr : (List Hand)) => (XE.exit 0, frm [(3, .sl 0)], [some (Ent.lst 5 (zr.map Qn))])) ?_ (out, i)
 rintro ⟨out, i⟩
 simp -dsimp +contextual only [↓evA, eZ, Nat.reduceAdd, Nat.reduceMul, Nat.reduceBEq, Nat.reduceLeDiff, Nat.reduceLT, QlW]
 try simp only [Jw, eY]
 all_goals rfl
theorem Qlu (n : Nat) {R1} {a : List Hand} [H1 : EncL Qn R1 a] : CP T (n + 3) 97 [.imm 5 R1] = (QbY a).map fun r => .own 5 (r.map Qn) := by
 obtain ⟨rfl⟩ := H1
 rw [Qd]
 simp -dsimp +contextual only [↓evA, eZ, Nat.reduceAdd, Nat.reduceMul, Nat.reduceBEq, Nat.reduceLeDiff, Nat.reduceLT, Tryz.func97, Tryz.f97, a97, QhY]
 try simp only [QbY, eY]
 all_goals first | rfl | (simp +contextual only [evN] <;> rfl)
theorem QkU (n : Nat) (axFrom : Int) (axTo : Int) (axCents : Int) (axAt : Int) : CP T (n + 1) 176 [.agg [.i .i64 axFrom, .i .i64 axTo, .i .i64 axCents, .i .i64 axAt]] = (Qax (⟨axFrom, axTo, axCents, axAt⟩ : Entry)).map fun r => .agg (Qh r) := by
 rw [Qd]
 simp -dsimp +contextual only [↓evA, eZ, Nat.reduceAdd, Nat.reduceMul, Nat.reduceBEq, Nat.reduceLeDiff, Nat.reduceLT, Tryz.func176, Tryz.f176, QNq]
 try simp only [Qax, eY]
 all_goals rfl
theorem Qgr (n : Nat) {R1} {a : List Entry} {R2} {out : List Entry} (i : Int) [H1 : EncL Qh R1 a] [H2 : EncL Qh R2 out] : LP T (n + 2) 98 3 (frm [(0, .imm 4 R1), (3, .sl 0), (4, .i .i64 i)]) [some (Ent.lst 4 R2)] =
  (run (Jf a) (out, i)).map (fun (zr : (List Entry)) => (XE.exit 0, frm [(3, .sl 0)], [some (Ent.lst 4 (zr.map Qh))])) := by
 rcases H1, H2 with ⟨⟨rfl⟩, ⟨rfl⟩⟩
 rw [Qr]
 simp -dsimp only [↓evA, evB, Qj, Tryz.func98, Tryz.f98, a98, TP, TZ, Nat.reduceAdd, Nat.reduceMul, Nat.reduceBEq, Nat.reduceLeDiff, Nat.reduceLT]
 refine run_map (fun (zs : (List Entry) × Int) => (frm [(0, .imm 4 (a.map Qh)), (3, .sl 0), (4, .i .i64 zs.2)], [some (Ent.lst 4 (zs.1.map Qh))])) (fun (zr : (List Entry)) => (XE.exit 0, frm [(3, .sl 0)], [some (Ent.lst 4 (zr.map Qh))])) ?_ (out, i)
 rintro ⟨out, i⟩
 simp -dsimp +contextual only [↓evA, eZ, Nat.reduceAdd, Nat.reduceMul, Nat.reduceBEq, Nat.reduceLeDiff, Nat.reduceLT, QkU]
 try simp only [Jf, eY]
 all_goals rfl
theorem Qjd (n : Nat) {R1} {a : List Entry} [H1 : EncL Qh R1 a] : CP T (n + 3) 98 [.imm 4 R1] = (QaJ a).map fun r => .own 4 (r.map Qh) := by
 obtain ⟨rfl⟩ := H1
 rw [Qd]
 simp -dsimp +contextual only [↓evA, eZ, Nat.reduceAdd, Nat.reduceMul, Nat.reduceBEq, Nat.reduceLeDiff, Nat.reduceLT, Tryz.func98, Tryz.f98, a98, Qgr]
 try simp only [QaJ, eY]
 all_goals first | rfl | (simp +contextual only [evN] <;> rfl)
theorem QlN (n : Nat) (axNo : Int) {R1} {axFinds : List Find} {R2} {axSecrets : List Secret} {R3} {axSlots : List Slot} {R4} {axClaims : List Claim} {R5} {axTrials : List Trial} {R6} {axChain : List Hand} {R7} {axBook : List Entry} (axNow : Int) [H1 : EncL Qp R1 axFinds] [H2 : EncL Qe R2 axSecrets] [H3 : EncL Qm R3 axSlots] [H4 : EncL Qc R4 axClaims] [H5 : EncL Qk R5 axTrials] [H6 : EncL Qn R6 axChain] [H7 : EncL Qh R7 axBook] : CP T (n + 7) 24 [.agg [.i .i64 axNo, .imm 8 R1, .imm 3 R2, .imm 3 R3, .imm 5 R4, .imm 4 R5, .imm 5 R6, .imm 4 R7, .i .i64 axNow]] = (XQ (⟨axNo, axFinds, axSecrets, axSlots, axClaims, axTrials, axChain, axBook, axNow⟩ : House)).map fun r => .agg (Z2 r) := by
 rcases H1, H2, H3, H4, H5, H6, H7 with ⟨⟨rfl⟩, ⟨rfl⟩, ⟨rfl⟩, ⟨rfl⟩, ⟨rfl⟩, ⟨rfl⟩, ⟨rfl⟩⟩
 rw [Qd]
 simp -dsimp +contextual (maxSteps := 100000000) only [↓evA, eZ, Nat.reduceAdd, Nat.reduceMul, Nat.reduceBEq, Nat.reduceLeDiff, Nat.reduceLT, Tryz.func24, Tryz.f24, a24, QkR, Qiw, QkY, Qjm, Qjl, Qlu, Qjd]
 try simp only [XQ, eY]
 all_goals rfl
theorem QnO (n : Nat) (axWho : Int) (axCents : Int) (axSeal : Int) : CP T (n + 1) 142 [.agg [.i .i64 axWho, .i .i64 axCents, .i .i64 axSeal]] = (Qce (⟨axWho, axCents, axSeal⟩ : Bid)).map fun r => .agg (QY r) := by
 rw [Qd]
 simp -dsimp +contextual only [↓evA, eZ, Nat.reduceAdd, Nat.reduceMul, Nat.reduceBEq, Nat.reduceLeDiff, Nat.reduceLT, Tryz.func142, Tryz.f142, QPR]
 try simp only [Qce, eY]
 all_goals rfl
theorem Qir (n : Nat) {R1} {a : List Bid} {R2} {out : List Bid} (i : Int) [H1 : EncL QY R1 a] [H2 : EncL QY R2 out] : LP T (n + 2) 43 3 (frm [(0, .imm 3 R1), (3, .sl 0), (4, .i .i64 i)]) [some (Ent.lst 3 R2)] =
  (run (J8 a) (out, i)).map (fun (zr : (List Bid)) => (XE.exit 0, frm [(3, .sl 0)], [some (Ent.lst 3 (zr.map QY))])) := by
 rcases H1, H2 with ⟨⟨rfl⟩, ⟨rfl⟩⟩
 rw [Qr]
 simp -dsimp only [↓evA, evB, Qj, Tryz.func43, Tryz.f43, a43, TP, TZ, Nat.reduceAdd, Nat.reduceMul, Nat.reduceBEq, Nat.reduceLeDiff, Nat.reduceLT]
 refine run_map (fun (zs : (List Bid) × Int) => (frm [(0, .imm 3 (a.map QY)), (3, .sl 0), (4, .i .i64 zs.2)], [some (Ent.lst 3 (zs.1.map QY))])) (fun (zr : (List Bid)) => (XE.exit 0, frm [(3, .sl 0)], [some (Ent.lst 3 (zr.map QY))])) ?_ (out, i)
 rintro ⟨out, i⟩
 simp -dsimp +contextual only [↓evA, eZ, Nat.reduceAdd, Nat.reduceMul, Nat.reduceBEq, Nat.reduceLeDiff, Nat.reduceLT, QnO]
 try simp only [J8, eY]
 all_goals rfl
theorem Qmd (n : Nat) {R1} {a : List Bid} [H1 : EncL QY R1 a] : CP T (n + 3) 43 [.imm 3 R1] = (Zk a).map fun r => .own 3 (r.map QY) := by
 obtain ⟨rfl⟩ := H1
 rw [Qd]
 simp -dsimp +contextual only [↓evA, eZ, Nat.reduceAdd, Nat.reduceMul, Nat.reduceBEq, Nat.reduceLeDiff, Nat.reduceLT, Tryz.func43, Tryz.f43, a43, Qir]
 try simp only [Zk, eY]
 all_goals first | rfl | (simp +contextual only [evN] <;> rfl)
theorem QfH (n : Nat) {R1} {l : List Find} (id : Int) (i : Int) [H1 : EncL Qp R1 l] : LP T (n + 1) 117 2 (frm [(0, .imm 8 R1), (1, .i .i64 id), (5, .i .i64 i)]) [] =
  VC (run (XD l id) i) (fun (zr : Int) => (XE.ret, frm [(4, .i .i64 zr)], [])) (fun (zr : Unit) => (XE.exit 0, frm [], [])) := by
 obtain ⟨rfl⟩ := H1
 rw [Qr]
 simp -dsimp only [↓evA, evB, Qj, Tryz.func117, Tryz.f117, QEX, TP, TZ, Nat.reduceAdd, Nat.reduceMul, Nat.reduceBEq, Nat.reduceLeDiff, Nat.reduceLT]
 refine run_map (fun (zs : Int) => (frm [(0, .imm 8 (l.map Qp)), (1, .i .i64 id), (5, .i .i64 zs)], [])) (evO (fun (zr : Int) => (XE.ret, frm [(4, .i .i64 zr)], [])) (fun (zr : Unit) => (XE.exit 0, frm [], []))) ?_ i
 intro i
 simp -dsimp +contextual only [↓evA, eZ, Nat.reduceAdd, Nat.reduceMul, Nat.reduceBEq, Nat.reduceLeDiff, Nat.reduceLT]
 try simp only [XD, eY]
 all_goals rfl
theorem QaA (n : Nat) {R1} {l : List Find} (id : Int) [H1 : EncL Qp R1 l] : CP T (n + 2) 117 [.imm 8 R1, .i .i64 id] = (Xi l id).map fun r => .i .i64 r := by
 obtain ⟨rfl⟩ := H1
 rw [Qd]
 simp -dsimp +contextual only [↓evA, eZ, Nat.reduceAdd, Nat.reduceMul, Nat.reduceBEq, Nat.reduceLeDiff, Nat.reduceLT, Tryz.func117, Tryz.f117, QEX, QfH]
 try simp only [Xi, eY]
 all_goals rfl
theorem Vj (n : Nat) (x : Int) (least : Int) (most : Int) : CP T (n + 1) 91 [.i .i64 x, .i .i64 least, .i .i64 most] = (Qf x least most).map fun r => .b r := by
 rw [Qd]
 simp -dsimp +contextual only [↓evA, eZ, Nat.reduceAdd, Nat.reduceMul, Nat.reduceBEq, Nat.reduceLeDiff, Nat.reduceLT, Tryz.func91, Tryz.f91, a91]
 try simp only [Qf, eY]
 all_goals rfl
theorem QgY (n : Nat) {R1} {l : List Bid} (i : Int) (k : Int) [H1 : EncL QY R1 l] : LP T (n + 1) 222 7 (frm [(0, .imm 3 R1), (3, .i .i64 i), (4, .i .i64 k)]) [] =
  VC (run (XJ l i) k) (fun (zr : Bool) => (XE.ret, frm [(2, .b zr)], [])) (fun (zr : Unit) => (XE.exit 2, frm [(0, .imm 3 (l.map QY)), (3, .i .i64 i)], [])) := by
 obtain ⟨rfl⟩ := H1
 rw [Qr]
 simp -dsimp only [↓evA, evB, Qj, Tryz.func222, Tryz.f222, a222, TP, TZ, Nat.reduceAdd, Nat.reduceMul, Nat.reduceBEq, Nat.reduceLeDiff, Nat.reduceLT]
 refine run_map (fun (zs : Int) => (frm [(0, .imm 3 (l.map QY)), (3, .i .i64 i), (4, .i .i64 zs)], [])) (evO (fun (zr : Bool) => (XE.ret, frm [(2, .b zr)], [])) (fun (zr : Unit) => (XE.exit 2, frm [(0, .imm 3 (l.map QY)), (3, .i .i64 i)], []))) ?_ k
 intro k
 simp -dsimp +contextual only [↓evA, eZ, Nat.reduceAdd, Nat.reduceMul, Nat.reduceBEq, Nat.reduceLeDiff, Nat.reduceLT]
 try simp only [XJ, eY]
 all_goals rfl
theorem Qg0 (n : Nat) {R1} {l : List Bid} (i : Int) [H1 : EncL QY R1 l] : LP T (n + 2) 222 2 (frm [(0, .imm 3 R1), (3, .i .i64 i)]) [] =
  VC (run (XG l) i) (fun (zr : Bool) => (XE.ret, frm [(2, .b zr)], [])) (fun (zr : Unit) => (XE.exit 0, frm [(0, .imm 3 (l.map QY))], [])) := by
 obtain ⟨rfl⟩ := H1
 rw [Qr]
 simp -dsimp only [↓evA, evB, Qj, Tryz.func222, Tryz.f222, a222, TP, TZ, Nat.reduceAdd, Nat.reduceMul, Nat.reduceBEq, Nat.reduceLeDiff, Nat.reduceLT]
 refine run_map (fun (zs : Int) => (frm [(0, .imm 3 (l.map QY)), (3, .i .i64 zs)], [])) (evO (fun (zr : Bool) => (XE.ret, frm [(2, .b zr)], [])) (fun (zr : Unit) => (XE.exit 0, frm [(0, .imm 3 (l.map QY))], []))) ?_ i
 intro i
 simp -dsimp +contextual only [↓evA, eZ, Nat.reduceAdd, Nat.reduceMul, Nat.reduceBEq, Nat.reduceLeDiff, Nat.reduceLT, Vj, QgY]
 try simp only [XG, eY]
 all_goals rfl
theorem Qls (n : Nat) {R1} {l : List Bid} [H1 : EncL QY R1 l] : CP T (n + 3) 222 [.imm 3 R1] = (QcP l).map fun r => .b r := by
 obtain ⟨rfl⟩ := H1
 rw [Qd]
 simp -dsimp +contextual only [↓evA, eZ, Nat.reduceAdd, Nat.reduceMul, Nat.reduceBEq, Nat.reduceLeDiff, Nat.reduceLT, Tryz.func222, Tryz.f222, a222, Qg0]
 try simp only [QcP, eY]
 all_goals rfl
theorem Qf0 (n : Nat) {R1} {l : List Bid} {R2} {out : List Bid} (i : Int) (k : Int) [H1 : EncL QY R1 l] [H2 : EncL QY R2 out] : LP T (n + 1) 223 6 (frm [(0, .imm 3 R1), (3, .sl 0), (4, .i .i64 i), (5, .i .i64 k)]) [some (Ent.lst 3 R2)] =
  (run (XC l out i) k).map (fun (zr : Int) => (XE.exit 2, frm [(0, .imm 3 (l.map QY)), (3, .sl 0), (4, .i .i64 i), (5, .i .i64 zr)], [some (Ent.lst 3 (out.map QY))])) := by
 rcases H1, H2 with ⟨⟨rfl⟩, ⟨rfl⟩⟩
 rw [Qr]
 simp -dsimp only [↓evA, evB, Qj, Tryz.func223, Tryz.f223, QAR, TP, TZ, Nat.reduceAdd, Nat.reduceMul, Nat.reduceBEq, Nat.reduceLeDiff, Nat.reduceLT]
 refine run_map (fun (zs : Int) => (frm [(0, .imm 3 (l.map QY)), (3, .sl 0), (4, .i .i64 i), (5, .i .i64 zs)], [some (Ent.lst 3 (out.map QY))])) (fun (zr : Int) => (XE.exit 2, frm [(0, .imm 3 (l.map QY)), (3, .sl 0), (4, .i .i64 i), (5, .i .i64 zr)], [some (Ent.lst 3 (out.map QY))])) ?_ k
 intro k
 simp -dsimp +contextual only [↓evA, eZ, Nat.reduceAdd, Nat.reduceMul, Nat.reduceBEq, Nat.reduceLeDiff, Nat.reduceLT]
 try simp only [XC, eY]
 try simp only [List.contains_nil, Bool.not_false, Bool.and_true, JE, List.length_append, List.length_cons, List.length_nil, Nat.zero_add, J1, ZP]
 all_goals rfl
theorem Qf3 (n : Nat) {R1} {l : List Bid} {R2} {out : List Bid} (i : Int) [H1 : EncL QY R1 l] [H2 : EncL QY R2 out] : LP T (n + 2) 223 3 (frm [(0, .imm 3 R1), (3, .sl 0), (4, .i .i64 i)]) [some (Ent.lst 3 R2)] =
  (run (VI l) (out, i)).map (fun (zr : (List Bid)) => (XE.exit 0, frm [(3, .sl 0)], [some (Ent.lst 3 (zr.map QY))])) := by
 rcases H1, H2 with ⟨⟨rfl⟩, ⟨rfl⟩⟩
 rw [Qr]
 simp -dsimp only [↓evA, evB, Qj, Tryz.func223, Tryz.f223, QAR, TP, TZ, Nat.reduceAdd, Nat.reduceMul, Nat.reduceBEq, Nat.reduceLeDiff, Nat.reduceLT]
 refine run_map (fun (zs : (List Bid) × Int) => (frm [(0, .imm 3 (l.map QY)), (3, .sl 0), (4, .i .i64 zs.2)], [some (Ent.lst 3 (zs.1.map QY))])) (fun (zr : (List Bid)) => (XE.exit 0, frm [(3, .sl 0)], [some (Ent.lst 3 (zr.map QY))])) ?_ (out, i)
 rintro ⟨out, i⟩
 simp -dsimp +contextual only [↓evA, eZ, Nat.reduceAdd, Nat.reduceMul, Nat.reduceBEq, Nat.reduceLeDiff, Nat.reduceLT, Qf0]
 try simp only [VI, eY]
 try simp only [List.contains_nil, Bool.not_false, Bool.and_true, JE, List.length_append, List.length_cons, List.length_nil, Nat.zero_add, J1, ZP]
 all_goals rfl
theorem Qis (n : Nat) {R1} {l : List Bid} [H1 : EncL QY R1 l] : CP T (n + 3) 223 [.imm 3 R1] = (Qal l).map fun r => .own 3 (r.map QY) := by
 obtain ⟨rfl⟩ := H1
 rw [Qd]
 simp -dsimp +contextual only [↓evA, eZ, Nat.reduceAdd, Nat.reduceMul, Nat.reduceBEq, Nat.reduceLeDiff, Nat.reduceLT, Tryz.func223, Tryz.f223, QAR, Qf3]
 try simp only [Qal, eY]
 try simp only [List.contains_nil, Bool.not_false, Bool.and_true, JE, List.length_append, List.length_cons, List.length_nil, Nat.zero_add, J1, ZP]
 all_goals first | rfl | (simp +contextual only [evN] <;> rfl)
theorem Qma (n : Nat) {R1} {l : List Bid} [H1 : EncL QY R1 l] : CP T (n + 4) 140 [.imm 3 R1] = (Qcu l).map fun r => .tup [.i .i64 r.1, .i .i64 r.2] := by
 obtain ⟨rfl⟩ := H1
 rw [Qd]
 simp -dsimp +contextual only [↓evA, eZ, Nat.reduceAdd, Nat.reduceMul, Nat.reduceBEq, Nat.reduceLeDiff, Nat.reduceLT, Tryz.func140, Tryz.f140, QQZ, Qls, Qis]
 try simp only [Qcu, eY]
 all_goals rfl
theorem QjY (n : Nat) (xxId : Int) (xxKind : Int) (xxColour : Int) (xxSize : Int) (xxWorth : Int) : CP T (n + 2) 208 [.agg [.i .i64 xxId, .i .i64 xxKind, .i .i64 xxColour, .i .i64 xxSize, .i .i64 xxWorth]] = (Zo (⟨xxId, xxKind, xxColour, xxSize, xxWorth⟩ : Thing)).map fun r => .b r := by
 rw [Qd]
 simp -dsimp +contextual only [↓evA, eZ, Nat.reduceAdd, Nat.reduceMul, Nat.reduceBEq, Nat.reduceLeDiff, Nat.reduceLT, Tryz.func208, Tryz.f208, QQY, Vj]
 try simp only [Zo, eY]
 all_goals rfl
theorem QdC (n : Nat) (fxThingxId : Int) (fxThingxKind : Int) (fxThingxColour : Int) (fxThingxSize : Int) (fxThingxWorth : Int) (fxPlace : Int) (fxAt : Int) (fxFinder : Int) : CP T (n + 3) 229 [.agg [.i .i64 fxThingxId, .i .i64 fxThingxKind, .i .i64 fxThingxColour, .i .i64 fxThingxSize, .i .i64 fxThingxWorth, .i .i64 fxPlace, .i .i64 fxAt, .i .i64 fxFinder]] = (VQ (⟨⟨fxThingxId, fxThingxKind, fxThingxColour, fxThingxSize, fxThingxWorth⟩, fxPlace, fxAt, fxFinder⟩ : Find)).map fun r => .b r := by
 rw [Qd]
 simp -dsimp +contextual only [↓evA, eZ, Nat.reduceAdd, Nat.reduceMul, Nat.reduceBEq, Nat.reduceLeDiff, Nat.reduceLT, Tryz.func229, Tryz.f229, a229, QjY, Vj]
 try simp only [VQ, eY]
 all_goals rfl
theorem Qgn (n : Nat) {R1} {l : List Find} (i : Int) [H1 : EncL Qp R1 l] : LP T (n + 4) 148 2 (frm [(0, .imm 8 R1), (3, .i .i64 i)]) [] =
  VC (run (QU l) i) (fun (zr : Bool) => (XE.ret, frm [(2, .b zr)], [])) (fun (zr : Unit) => (XE.exit 0, frm [(0, .imm 8 (l.map Qp))], [])) := by
 obtain ⟨rfl⟩ := H1
 rw [Qr]
 simp -dsimp only [↓evA, evB, Qj, Tryz.func148, Tryz.f148, QIG, TP, TZ, Nat.reduceAdd, Nat.reduceMul, Nat.reduceBEq, Nat.reduceLeDiff, Nat.reduceLT]
 refine run_map (fun (zs : Int) => (frm [(0, .imm 8 (l.map Qp)), (3, .i .i64 zs)], [])) (evO (fun (zr : Bool) => (XE.ret, frm [(2, .b zr)], [])) (fun (zr : Unit) => (XE.exit 0, frm [(0, .imm 8 (l.map Qp))], []))) ?_ i
 intro i
 simp -dsimp +contextual only [↓evA, eZ, Nat.reduceAdd, Nat.reduceMul, Nat.reduceBEq, Nat.reduceLeDiff, Nat.reduceLT, QdC]
 try simp only [QU, eY]
 all_goals rfl
theorem Qi5 (n : Nat) {R1} {l : List Find} [H1 : EncL Qp R1 l] : CP T (n + 5) 148 [.imm 8 R1] = (XW l).map fun r => .b r := by
 obtain ⟨rfl⟩ := H1
 rw [Qd]
 simp -dsimp +contextual only [↓evA, eZ, Nat.reduceAdd, Nat.reduceMul, Nat.reduceBEq, Nat.reduceLeDiff, Nat.reduceLT, Tryz.func148, Tryz.f148, QIG, Qgn]
 try simp only [XW, eY]
 all_goals rfl
theorem Qgs (n : Nat) {R1} {l : List Mark} (i : Int) [H1 : EncL Q4 R1 l] : LP T (n + 2) 188 2 (frm [(0, .imm 2 R1), (3, .i .i64 i)]) [] =
  VC (run (X7 l) i) (fun (zr : Bool) => (XE.ret, frm [(2, .b zr)], [])) (fun (zr : Unit) => (XE.exit 0, frm [(0, .imm 2 (l.map Q4))], [])) := by
 obtain ⟨rfl⟩ := H1
 rw [Qr]
 simp -dsimp only [↓evA, evB, Qj, Tryz.func188, Tryz.f188, QC8, TP, TZ, Nat.reduceAdd, Nat.reduceMul, Nat.reduceBEq, Nat.reduceLeDiff, Nat.reduceLT]
 refine run_map (fun (zs : Int) => (frm [(0, .imm 2 (l.map Q4)), (3, .i .i64 zs)], [])) (evO (fun (zr : Bool) => (XE.ret, frm [(2, .b zr)], [])) (fun (zr : Unit) => (XE.exit 0, frm [(0, .imm 2 (l.map Q4))], []))) ?_ i
 intro i
 simp -dsimp +contextual only [↓evA, eZ, Nat.reduceAdd, Nat.reduceMul, Nat.reduceBEq, Nat.reduceLeDiff, Nat.reduceLT, Vj]
 try simp only [X7, eY]
 all_goals rfl
theorem Qei (n : Nat) {R1} {l : List Mark} [H1 : EncL Q4 R1 l] : CP T (n + 3) 188 [.imm 2 R1] = (QaS l).map fun r => .b r := by
 obtain ⟨rfl⟩ := H1
 rw [Qd]
 simp -dsimp +contextual only [↓evA, eZ, Nat.reduceAdd, Nat.reduceMul, Nat.reduceBEq, Nat.reduceLeDiff, Nat.reduceLT, Tryz.func188, Tryz.f188, QC8, Qgs]
 try simp only [QaS, eY]
 all_goals rfl
theorem Qfh (n : Nat) {R1} {l : List Secret} (t3 : Int) [H1 : EncL Qe R1 l] : LP T (n + 4) 149 2 (frm [(0, .imm 3 R1), (3, .i .i64 t3)]) [] =
  VC (run (Vy l) t3) (fun (zr : Bool) => (XE.ret, frm [(2, .b zr)], [])) (fun (zr : Unit) => (XE.exit 0, frm [(0, .imm 3 (l.map Qe))], [])) := by
 obtain ⟨rfl⟩ := H1
 rw [Qr]
 simp -dsimp only [↓evA, evB, Qj, Tryz.func149, Tryz.f149, QDI, TP, TZ, Nat.reduceAdd, Nat.reduceMul, Nat.reduceBEq, Nat.reduceLeDiff, Nat.reduceLT]
 refine run_map (fun (zs : Int) => (frm [(0, .imm 3 (l.map Qe)), (3, .i .i64 zs)], [])) (evO (fun (zr : Bool) => (XE.ret, frm [(2, .b zr)], [])) (fun (zr : Unit) => (XE.exit 0, frm [(0, .imm 3 (l.map Qe))], []))) ?_ t3
 intro t3
 simp -dsimp +contextual only [↓evA, eZ, Nat.reduceAdd, Nat.reduceMul, Nat.reduceBEq, Nat.reduceLeDiff, Nat.reduceLT, Vj, Qei]
 try simp only [Vy, eY]
 all_goals rfl
theorem Qhx (n : Nat) {R1} {l : List Secret} [H1 : EncL Qe R1 l] : CP T (n + 5) 149 [.imm 3 R1] = (JB l).map fun r => .b r := by
 obtain ⟨rfl⟩ := H1
 rw [Qd]
 simp -dsimp +contextual only [↓evA, eZ, Nat.reduceAdd, Nat.reduceMul, Nat.reduceBEq, Nat.reduceLeDiff, Nat.reduceLT, Tryz.func149, Tryz.f149, QDI, Qfh]
 try simp only [JB, eY]
 all_goals rfl
theorem Qgk (n : Nat) {R1} {l : List Slot} (t3 : Int) (t4 : Int) [H1 : EncL Qm R1 l] : LP T (n + 1) 150 7 (frm [(0, .imm 3 R1), (3, .i .i64 t3), (4, .i .i64 t4)]) [] =
  VC (run (V0 l t3) t4) (fun (zr : Bool) => (XE.ret, frm [(2, .b zr)], [])) (fun (zr : Unit) => (XE.exit 2, frm [(0, .imm 3 (l.map Qm)), (3, .i .i64 t3)], [])) := by
 obtain ⟨rfl⟩ := H1
 rw [Qr]
 simp -dsimp only [↓evA, evB, Qj, Tryz.func150, Tryz.f150, Qyy, TP, TZ, Nat.reduceAdd, Nat.reduceMul, Nat.reduceBEq, Nat.reduceLeDiff, Nat.reduceLT]
 refine run_map (fun (zs : Int) => (frm [(0, .imm 3 (l.map Qm)), (3, .i .i64 t3), (4, .i .i64 zs)], [])) (evO (fun (zr : Bool) => (XE.ret, frm [(2, .b zr)], [])) (fun (zr : Unit) => (XE.exit 2, frm [(0, .imm 3 (l.map Qm)), (3, .i .i64 t3)], []))) ?_ t4
 intro t4
 simp -dsimp +contextual only [↓evA, eZ, Nat.reduceAdd, Nat.reduceMul, Nat.reduceBEq, Nat.reduceLeDiff, Nat.reduceLT]
 try simp only [V0, eY]
 all_goals rfl
theorem Qgl (n : Nat) {R1} {l : List Slot} (t3 : Int) [H1 : EncL Qm R1 l] : LP T (n + 2) 150 2 (frm [(0, .imm 3 R1), (3, .i .i64 t3)]) [] =
  VC (run (Vq l) t3) (fun (zr : Bool) => (XE.ret, frm [(2, .b zr)], [])) (fun (zr : Unit) => (XE.exit 0, frm [(0, .imm 3 (l.map Qm))], [])) := by
 obtain ⟨rfl⟩ := H1
 rw [Qr]
 simp -dsimp only [↓evA, evB, Qj, Tryz.func150, Tryz.f150, Qyy, TP, TZ, Nat.reduceAdd, Nat.reduceMul, Nat.reduceBEq, Nat.reduceLeDiff, Nat.reduceLT]
 refine run_map (fun (zs : Int) => (frm [(0, .imm 3 (l.map Qm)), (3, .i .i64 zs)], [])) (evO (fun (zr : Bool) => (XE.ret, frm [(2, .b zr)], [])) (fun (zr : Unit) => (XE.exit 0, frm [(0, .imm 3 (l.map Qm))], []))) ?_ t3
 intro t3
 simp -dsimp +contextual only [↓evA, eZ, Nat.reduceAdd, Nat.reduceMul, Nat.reduceBEq, Nat.reduceLeDiff, Nat.reduceLT, Vj, Qgk]
 try simp only [Vq, eY]
 all_goals rfl
theorem Qer (n : Nat) {R1} {l : List Slot} [H1 : EncL Qm R1 l] : CP T (n + 3) 150 [.imm 3 R1] = (JT l).map fun r => .b r := by
 obtain ⟨rfl⟩ := H1
 rw [Qd]
 simp -dsimp +contextual only [↓evA, eZ, Nat.reduceAdd, Nat.reduceMul, Nat.reduceBEq, Nat.reduceLeDiff, Nat.reduceLT, Tryz.func150, Tryz.f150, Qyy, Qgl]
 try simp only [JT, eY]
 all_goals rfl
theorem QfQ (n : Nat) {R1} {l : List Claim} (t3 : Int) (t4xId : Int) (t4xWho : Int) (t4xThing : Int) (t4xAt : Int) (t4xState : Int) (t5 : Int) [H1 : EncL Qc R1 l] : LP T (n + 1) 151 8 (frm [(0, .imm 5 R1), (3, .i .i64 t3), (4, .ptr 0 0 0), (5, .i .i64 t5)]) [some (Ent.box [.i .i64 t4xId, .i .i64 t4xWho, .i .i64 t4xThing, .i .i64 t4xAt, .i .i64 t4xState])] =
  VC (run (VK l t3 (⟨t4xId, t4xWho, t4xThing, t4xAt, t4xState⟩ : Claim)) t5) (fun (zr : Bool) => (XE.ret, frm [(2, .b zr)], [])) (fun (zr : Unit) => (XE.exit 2, frm [(0, .imm 5 (l.map Qc)), (3, .i .i64 t3)], [])) := by
 obtain ⟨rfl⟩ := H1
 rw [Qr]
 simp -dsimp only [↓evA, evB, Qj, Tryz.func151, Tryz.f151, QzE, TP, TZ, Nat.reduceAdd, Nat.reduceMul, Nat.reduceBEq, Nat.reduceLeDiff, Nat.reduceLT]
 refine run_map (fun (zs : Int) => (frm [(0, .imm 5 (l.map Qc)), (3, .i .i64 t3), (4, .ptr 0 0 0), (5, .i .i64 zs)], [some (Ent.box [.i .i64 t4xId, .i .i64 t4xWho, .i .i64 t4xThing, .i .i64 t4xAt, .i .i64 t4xState])])) (evO (fun (zr : Bool) => (XE.ret, frm [(2, .b zr)], [])) (fun (zr : Unit) => (XE.exit 2, frm [(0, .imm 5 (l.map Qc)), (3, .i .i64 t3)], []))) ?_ t5
 intro t5
 simp -dsimp +contextual only [↓evA, eZ, Nat.reduceAdd, Nat.reduceMul, Nat.reduceBEq, Nat.reduceLeDiff, Nat.reduceLT]
 try simp only [VK, eY]
 all_goals rfl
theorem QfL (n : Nat) {R1} {l : List Claim} (t3 : Int) [H1 : EncL Qc R1 l] : LP T (n + 2) 151 2 (frm [(0, .imm 5 R1), (3, .i .i64 t3)]) [] =
  VC (run (Q1 l) t3) (fun (zr : Bool) => (XE.ret, frm [(2, .b zr)], [])) (fun (zr : Unit) => (XE.exit 0, frm [(0, .imm 5 (l.map Qc))], [])) := by
 obtain ⟨rfl⟩ := H1
 rw [Qr]
 simp -dsimp only [↓evA, evB, Qj, Tryz.func151, Tryz.f151, QzE, TP, TZ, Nat.reduceAdd, Nat.reduceMul, Nat.reduceBEq, Nat.reduceLeDiff, Nat.reduceLT]
 refine run_map (fun (zs : Int) => (frm [(0, .imm 5 (l.map Qc)), (3, .i .i64 zs)], [])) (evO (fun (zr : Bool) => (XE.ret, frm [(2, .b zr)], [])) (fun (zr : Unit) => (XE.exit 0, frm [(0, .imm 5 (l.map Qc))], []))) ?_ t3
 intro t3
 simp -dsimp +contextual only [↓evA, eZ, Nat.reduceAdd, Nat.reduceMul, Nat.reduceBEq, Nat.reduceLeDiff, Nat.reduceLT, Vj, QfQ]
 try simp only [Q1, eY]
 all_goals rfl
theorem Qh4 (n : Nat) {R1} {l : List Claim} [H1 : EncL Qc R1 l] : CP T (n + 3) 151 [.imm 5 R1] = (Vn l).map fun r => .b r := by
 obtain ⟨rfl⟩ := H1
 rw [Qd]
 simp -dsimp +contextual only [↓evA, eZ, Nat.reduceAdd, Nat.reduceMul, Nat.reduceBEq, Nat.reduceLeDiff, Nat.reduceLT, Tryz.func151, Tryz.f151, QzE, QfL]
 try simp only [Vn, eY]
 all_goals rfl
theorem QqH (n : Nat) (vn : Int) (m : Int) : CP T (n + 2) 267 [.i .i64 vn, .i .i64 m] = (Qfl vn m).map fun r => .i .i64 r := by
 rw [Qd]
 simp -dsimp +contextual only [↓evA, eZ, Nat.reduceAdd, Nat.reduceMul, Nat.reduceBEq, Nat.reduceLeDiff, Nat.reduceLT, Tryz.func267, Tryz.f267, QMW, Vj]
 try simp only [Qfl, eY]
 all_goals rfl
theorem Qk8 (n : Nat) {R1} {l : List Int} (d : Int) (i : Int) [H1 : EncL Qt R1 l] : LP T (n + 3) 251 3 (frm [(0, .imm 1 R1), (3, .i .i64 d), (4, .i .i64 i)]) [] =
  (run (JJ l) (d, i)).map (fun (zr : Int) => (XE.exit 0, frm [(3, .i .i64 zr)], [])) := by
 obtain ⟨rfl⟩ := H1
 rw [Qr]
 simp -dsimp only [↓evA, evB, Qj, Tryz.func251, Tryz.f251, QGi, TP, TZ, Nat.reduceAdd, Nat.reduceMul, Nat.reduceBEq, Nat.reduceLeDiff, Nat.reduceLT]
 refine run_map (fun (zs : Int × Int) => (frm [(0, .imm 1 (l.map Qt)), (3, .i .i64 zs.1), (4, .i .i64 zs.2)], [])) (fun (zr : Int) => (XE.exit 0, frm [(3, .i .i64 zr)], [])) ?_ (d, i)
 rintro ⟨d, i⟩
 simp -dsimp +contextual only [↓evA, eZ, Nat.reduceAdd, Nat.reduceMul, Nat.reduceBEq, Nat.reduceLeDiff, Nat.reduceLT, QqH]
 try simp only [JJ, eY]
 all_goals rfl
theorem QoD (n : Nat) {R1} {l : List Int} [H1 : EncL Qt R1 l] : CP T (n + 4) 251 [.imm 1 R1] = (Qb9 l).map fun r => .i .i64 r := by
 obtain ⟨rfl⟩ := H1
 rw [Qd]
 simp -dsimp +contextual only [↓evA, eZ, Nat.reduceAdd, Nat.reduceMul, Nat.reduceBEq, Nat.reduceLeDiff, Nat.reduceLT, Tryz.func251, Tryz.f251, QGi, Qk8]
 try simp only [Qb9, eY]
 all_goals rfl
theorem Qeg (n : Nat) (before : Int) (xxThing : Int) (xxHolder : Int) (xxWho : Int) (xxAt : Int) (xxSeal : Int) : CP T (n + 5) 217 [.i .i64 before, .agg [.i .i64 xxThing, .i .i64 xxHolder, .i .i64 xxWho, .i .i64 xxAt, .i .i64 xxSeal]] = (XX before (⟨xxThing, xxHolder, xxWho, xxAt, xxSeal⟩ : Hand)).map fun r => .i .i64 r := by
 rw [Qd]
 simp -dsimp +contextual only [↓evA, eZ, Nat.reduceAdd, Nat.reduceMul, Nat.reduceBEq, Nat.reduceLeDiff, Nat.reduceLT, Tryz.func217, Tryz.f217, QQN, QoD]
 try simp only [XX, eY]
 all_goals rfl
theorem QhS (n : Nat) {R1} {l : List Hand} (thing : Int) (before : Int) (k : Int) (i : Int) [H1 : EncL Qn R1 l] : LP T (n + 1) 230 3 (frm [(0, .imm 5 R1), (1, .i .i64 thing), (2, .i .i64 before), (7, .i .i64 k), (8, .i .i64 i)]) [] =
  (run (XM l thing before) (k, i)).map (fun (zr : Int) => (XE.exit 0, frm [(7, .i .i64 zr)], [])) := by
 obtain ⟨rfl⟩ := H1
 rw [Qr]
 simp -dsimp only [↓evA, evB, Qj, Tryz.func230, Tryz.f230, QCk, TP, TZ, Nat.reduceAdd, Nat.reduceMul, Nat.reduceBEq, Nat.reduceLeDiff, Nat.reduceLT]
 refine run_map (fun (zs : Int × Int) => (frm [(0, .imm 5 (l.map Qn)), (1, .i .i64 thing), (2, .i .i64 before), (7, .i .i64 zs.1), (8, .i .i64 zs.2)], [])) (fun (zr : Int) => (XE.exit 0, frm [(7, .i .i64 zr)], [])) ?_ (k, i)
 rintro ⟨k, i⟩
 simp -dsimp +contextual only [↓evA, eZ, Nat.reduceAdd, Nat.reduceMul, Nat.reduceBEq, Nat.reduceLeDiff, Nat.reduceLT]
 try simp only [XM, eY]
 all_goals rfl
end Go.Proofs.YtcdffihcfeajfaaGreat
