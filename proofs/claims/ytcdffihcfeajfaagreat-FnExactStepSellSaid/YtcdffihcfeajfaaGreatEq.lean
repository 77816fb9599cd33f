import Derived.Test.YtcdffihcfeajfaaGreatEq4
namespace Go.Proofs.YtcdffihcfeajfaaGreat
open Go Go.Proofs Go.Proofs.YtcdffihcfeajfaaGreat.Am
set_option maxHeartbeats 4000000
set_option linter.unusedVariables false
set_option linter.unusedSimpArgs false
set_option linter.defProp false
set_option maxRecDepth 100000
theorem Qhh (n : Nat) {R1} {a : List Entry} (k : Int) [H1 : EncL Qh R1 a] : CA T (n + 2) 77 [some (Ent.lst 4 R1)] [.sl 0, .i .i64 k] = (ZO a k).map fun r => (.i .i64 r.2, [some (Ent.lst 4 (r.1.map Qh))]) := by
 obtain ⟨rfl⟩ := H1
 rw [QdU]
 simp -dsimp +contextual only [↓evA, eZ, Nat.reduceAdd, Nat.reduceMul, Nat.reduceBEq, Nat.reduceLeDiff, Nat.reduceLT, Tryz.func77, Tryz.f77, a77, QeM]
 try simp only [ZO, eY]
 all_goals rfl
theorem Qix (n : Nat) (axNo : Int) {R1} {axFinds : List Find} {R2} {axSecrets : List Secret} {R3} {axSlots : List Slot} {R4} {axClaims : List Claim} {R5} {axTrials : List Trial} {R6} {axChain : List Hand} {R7} {axBook : List Entry} (axNow : Int) (k : Int) [H1 : EncL Qp R1 axFinds] [H2 : EncL QS R2 axSecrets] [H3 : EncL Qm R3 axSlots] [H4 : EncL Qc R4 axClaims] [H5 : EncL Qk R5 axTrials] [H6 : EncL Qn R6 axChain] [H7 : EncL Qh R7 axBook] : CA T (n + 5) 20 [some (Ent.lst 8 R1), some (Ent.lst 3 R2), some (Ent.lst 3 R3), some (Ent.lst 5 R4), some (Ent.lst 4 R5), some (Ent.lst 5 R6), some (Ent.lst 4 R7)] [.agg [.i .i64 axNo, .sl 0, .sl 1, .sl 2, .sl 3, .sl 4, .sl 5, .sl 6, .i .i64 axNow], .i .i64 k] = (VG (⟨axNo, axFinds, axSecrets, axSlots, axClaims, axTrials, axChain, axBook, axNow⟩ : House) k).map fun r => (.i .i64 r.2, [some (Ent.lst 8 (r.1.Finds.map Qp)), some (Ent.lst 3 (r.1.Secrets.map QS)), some (Ent.lst 3 (r.1.Slots.map Qm)), some (Ent.lst 5 (r.1.Claims.map Qc)), some (Ent.lst 4 (r.1.Trials.map Qk)), some (Ent.lst 5 (r.1.Chain.map Qn)), some (Ent.lst 4 (r.1.Book.map Qh))]) := by
 rcases H1, H2, H3, H4, H5, H6, H7 with ⟨⟨rfl⟩, ⟨rfl⟩, ⟨rfl⟩, ⟨rfl⟩, ⟨rfl⟩, ⟨rfl⟩, ⟨rfl⟩⟩
 rw [QdU]
 simp -dsimp +contextual (maxSteps := 100000000) only [↓evA, eZ, Nat.reduceAdd, Nat.reduceMul, Nat.reduceBEq, Nat.reduceLeDiff, Nat.reduceLT, Tryz.func20, Tryz.f20, a20, srt, Qih, QgG, Qie, Qhs, QhE, Qiv, Qhh]
 try simp only [VG, eY]
 all_goals rfl
theorem Qgg (n : Nat) {R1} {a : List Bid} (k : Int) (i : Int) [H1 : EncL QY R1 a] : LP T (n + 1) 46 2 (frm [(0, .sl 0), (1, .i .i64 k), (5, .i .i64 i)]) [some (Ent.lst 3 R1)] =
  (run X8 (a, k, i)).map (fun (zr : (List Bid) × Int) => (XE.exit 0, frm [(0, .sl 0), (1, .i .i64 zr.2)], [some (Ent.lst 3 (zr.1.map QY))])) := by
 obtain ⟨rfl⟩ := H1
 rw [Qr]
 simp -dsimp only [↓evA, evB, Qj, Tryz.func46, Tryz.f46, a46, TP, TZ, Nat.reduceAdd, Nat.reduceMul, Nat.reduceBEq, Nat.reduceLeDiff, Nat.reduceLT]
 refine run_map (fun (zs : (List Bid) × Int × Int) => (frm [(0, .sl 0), (1, .i .i64 zs.2.1), (5, .i .i64 zs.2.2)], [some (Ent.lst 3 (zs.1.map QY))])) (fun (zr : (List Bid) × Int) => (XE.exit 0, frm [(0, .sl 0), (1, .i .i64 zr.2)], [some (Ent.lst 3 (zr.1.map QY))])) ?_ (a, k, i)
 rintro ⟨a, k, i⟩
 simp -dsimp +contextual only [↓evA, eZ, Nat.reduceAdd, Nat.reduceMul, Nat.reduceBEq, Nat.reduceLeDiff, Nat.reduceLT]
 try simp only [X8, eY]
 all_goals rfl
theorem QjE (n : Nat) {R1} {a : List Bid} (k : Int) [H1 : EncL QY R1 a] : CA T (n + 2) 46 [some (Ent.lst 3 R1)] [.sl 0, .i .i64 k] = (QaY a k).map fun r => (.i .i64 r.2, [some (Ent.lst 3 (r.1.map QY))]) := by
 obtain ⟨rfl⟩ := H1
 rw [QdU]
 simp -dsimp +contextual only [↓evA, eZ, Nat.reduceAdd, Nat.reduceMul, Nat.reduceBEq, Nat.reduceLeDiff, Nat.reduceLT, Tryz.func46, Tryz.f46, a46, Qgg]
 try simp only [QaY, eY]
 all_goals rfl
theorem QfY (n : Nat) {R1} {a : List Find} (t1 : Int) (t5 : Int) [H1 : EncL Qp R1 a] : LP T (n + 1) 78 2 (frm [(0, .imm 8 R1), (1, .i .i64 t1), (5, .i .i64 t5)]) [] =
  VC (run (Xt a) (t1, t5)) (fun (zr : Int) => (XE.ret, frm [(4, .i .i64 zr)], [])) (fun (zr : Int) => (XE.exit 0, frm [(1, .i .i64 zr)], [])) := by
 obtain ⟨rfl⟩ := H1
 rw [Qr]
 simp -dsimp only [↓evA, evB, Qj, Tryz.func78, Tryz.f78, a78, TP, TZ, Nat.reduceAdd, Nat.reduceMul, Nat.reduceBEq, Nat.reduceLeDiff, Nat.reduceLT]
 refine run_map (fun (zs : Int × Int) => (frm [(0, .imm 8 (a.map Qp)), (1, .i .i64 zs.1), (5, .i .i64 zs.2)], [])) (evO (fun (zr : Int) => (XE.ret, frm [(4, .i .i64 zr)], [])) (fun (zr : Int) => (XE.exit 0, frm [(1, .i .i64 zr)], []))) ?_ (t1, t5)
 rintro ⟨t1, t5⟩
 simp -dsimp +contextual only [↓evA, eZ, Nat.reduceAdd, Nat.reduceMul, Nat.reduceBEq, Nat.reduceLeDiff, Nat.reduceLT]
 try simp only [Xt, eY]
 all_goals rfl
theorem QiI (n : Nat) {R1} {a : List Find} (a2 : Int) [H1 : EncL Qp R1 a] : CP T (n + 2) 78 [.imm 8 R1, .i .i64 a2] = (Z9 a a2).map fun r => .i .i64 r := by
 obtain ⟨rfl⟩ := H1
 rw [Qd]
 simp -dsimp +contextual only [↓evA, eZ, Nat.reduceAdd, Nat.reduceMul, Nat.reduceBEq, Nat.reduceLeDiff, Nat.reduceLT, Tryz.func78, Tryz.f78, a78, QfY]
 try simp only [Z9, eY]
 all_goals rfl
theorem QfN (n : Nat) {R1} {a : List Mark} (k : Int) (i : Int) [H1 : EncL Q4 R1 a] : LP T (n + 1) 170 2 (frm [(0, .imm 2 R1), (1, .i .i64 k), (5, .i .i64 i)]) [] =
  VC (run (Xr a) (k, i)) (fun (zr : Int) => (XE.ret, frm [(4, .i .i64 zr)], [])) (fun (zr : Int) => (XE.exit 0, frm [(1, .i .i64 zr)], [])) := by
 obtain ⟨rfl⟩ := H1
 rw [Qr]
 simp -dsimp only [↓evA, evB, Qj, Tryz.func170, Tryz.f170, QDn, TP, TZ, Nat.reduceAdd, Nat.reduceMul, Nat.reduceBEq, Nat.reduceLeDiff, Nat.reduceLT]
 refine run_map (fun (zs : Int × Int) => (frm [(0, .imm 2 (a.map Q4)), (1, .i .i64 zs.1), (5, .i .i64 zs.2)], [])) (evO (fun (zr : Int) => (XE.ret, frm [(4, .i .i64 zr)], [])) (fun (zr : Int) => (XE.exit 0, frm [(1, .i .i64 zr)], []))) ?_ (k, i)
 rintro ⟨k, i⟩
 simp -dsimp +contextual only [↓evA, eZ, Nat.reduceAdd, Nat.reduceMul, Nat.reduceBEq, Nat.reduceLeDiff, Nat.reduceLT]
 try simp only [Xr, eY]
 all_goals rfl
theorem Qh1 (n : Nat) {R1} {a : List Mark} (k : Int) [H1 : EncL Q4 R1 a] : CP T (n + 2) 170 [.imm 2 R1, .i .i64 k] = (Qab a k).map fun r => .i .i64 r := by
 obtain ⟨rfl⟩ := H1
 rw [Qd]
 simp -dsimp +contextual only [↓evA, eZ, Nat.reduceAdd, Nat.reduceMul, Nat.reduceBEq, Nat.reduceLeDiff, Nat.reduceLT, Tryz.func170, Tryz.f170, QDn, QfN]
 try simp only [Qab, eY]
 all_goals rfl
theorem Qeu (n : Nat) {R1} {a : List Secret} (k : Int) (i : Int) [H1 : EncL Qe R1 a] : LP T (n + 3) 79 2 (frm [(0, .imm 3 R1), (1, .i .i64 k), (5, .i .i64 i)]) [] =
  VC (run (VL a) (k, i)) (fun (zr : Int) => (XE.ret, frm [(4, .i .i64 zr)], [])) (fun (zr : Int) => (XE.exit 0, frm [(1, .i .i64 zr)], [])) := by
 obtain ⟨rfl⟩ := H1
 rw [Qr]
 simp -dsimp only [↓evA, evB, Qj, Tryz.func79, Tryz.f79, a79, TP, TZ, Nat.reduceAdd, Nat.reduceMul, Nat.reduceBEq, Nat.reduceLeDiff, Nat.reduceLT]
 refine run_map (fun (zs : Int × Int) => (frm [(0, .imm 3 (a.map Qe)), (1, .i .i64 zs.1), (5, .i .i64 zs.2)], [])) (evO (fun (zr : Int) => (XE.ret, frm [(4, .i .i64 zr)], [])) (fun (zr : Int) => (XE.exit 0, frm [(1, .i .i64 zr)], []))) ?_ (k, i)
 rintro ⟨k, i⟩
 simp -dsimp +contextual only [↓evA, eZ, Nat.reduceAdd, Nat.reduceMul, Nat.reduceBEq, Nat.reduceLeDiff, Nat.reduceLT, Qh1]
 try simp only [VL, eY]
 all_goals rfl
theorem Qgi (n : Nat) {R1} {a : List Secret} (k : Int) [H1 : EncL Qe R1 a] : CP T (n + 4) 79 [.imm 3 R1, .i .i64 k] = (J6 a k).map fun r => .i .i64 r := by
 obtain ⟨rfl⟩ := H1
 rw [Qd]
 simp -dsimp +contextual only [↓evA, eZ, Nat.reduceAdd, Nat.reduceMul, Nat.reduceBEq, Nat.reduceLeDiff, Nat.reduceLT, Tryz.func79, Tryz.f79, a79, Qeu]
 try simp only [J6, eY]
 all_goals rfl
theorem QfG (n : Nat) {R1} {a : List Slot} (k : Int) (i : Int) [H1 : EncL Qm R1 a] : LP T (n + 1) 80 2 (frm [(0, .imm 3 R1), (1, .i .i64 k), (5, .i .i64 i)]) [] =
  VC (run (Xq a) (k, i)) (fun (zr : Int) => (XE.ret, frm [(4, .i .i64 zr)], [])) (fun (zr : Int) => (XE.exit 0, frm [(1, .i .i64 zr)], [])) := by
 obtain ⟨rfl⟩ := H1
 rw [Qr]
 simp -dsimp only [↓evA, evB, Qj, Tryz.func80, Tryz.f80, a80, TP, TZ, Nat.reduceAdd, Nat.reduceMul, Nat.reduceBEq, Nat.reduceLeDiff, Nat.reduceLT]
 refine run_map (fun (zs : Int × Int) => (frm [(0, .imm 3 (a.map Qm)), (1, .i .i64 zs.1), (5, .i .i64 zs.2)], [])) (evO (fun (zr : Int) => (XE.ret, frm [(4, .i .i64 zr)], [])) (fun (zr : Int) => (XE.exit 0, frm [(1, .i .i64 zr)], []))) ?_ (k, i)
 rintro ⟨k, i⟩
 simp -dsimp +contextual only [↓evA, eZ, Nat.reduceAdd, Nat.reduceMul, Nat.reduceBEq, Nat.reduceLeDiff, Nat.reduceLT]
 try simp only [Xq, eY]
 all_goals rfl
theorem QiB (n : Nat) {R1} {a : List Slot} (k : Int) [H1 : EncL Qm R1 a] : CP T (n + 2) 80 [.imm 3 R1, .i .i64 k] = (Z7 a k).map fun r => .i .i64 r := by
 obtain ⟨rfl⟩ := H1
 rw [Qd]
 simp -dsimp +contextual only [↓evA, eZ, Nat.reduceAdd, Nat.reduceMul, Nat.reduceBEq, Nat.reduceLeDiff, Nat.reduceLT, Tryz.func80, Tryz.f80, a80, QfG]
 try simp only [Z7, eY]
 all_goals rfl
theorem QeV (n : Nat) {R1} {a : List Claim} (k : Int) (i : Int) [H1 : EncL Qc R1 a] : LP T (n + 1) 81 2 (frm [(0, .imm 5 R1), (1, .i .i64 k), (5, .i .i64 i)]) [] =
  VC (run (V3 a) (k, i)) (fun (zr : Int) => (XE.ret, frm [(4, .i .i64 zr)], [])) (fun (zr : Int) => (XE.exit 0, frm [(1, .i .i64 zr)], [])) := by
 obtain ⟨rfl⟩ := H1
 rw [Qr]
 simp -dsimp only [↓evA, evB, Qj, Tryz.func81, Tryz.f81, a81, TP, TZ, Nat.reduceAdd, Nat.reduceMul, Nat.reduceBEq, Nat.reduceLeDiff, Nat.reduceLT]
 refine run_map (fun (zs : Int × Int) => (frm [(0, .imm 5 (a.map Qc)), (1, .i .i64 zs.1), (5, .i .i64 zs.2)], [])) (evO (fun (zr : Int) => (XE.ret, frm [(4, .i .i64 zr)], [])) (fun (zr : Int) => (XE.exit 0, frm [(1, .i .i64 zr)], []))) ?_ (k, i)
 rintro ⟨k, i⟩
 simp -dsimp +contextual only [↓evA, eZ, Nat.reduceAdd, Nat.reduceMul, Nat.reduceBEq, Nat.reduceLeDiff, Nat.reduceLT]
 try simp only [V3, eY]
 all_goals rfl
theorem QgT (n : Nat) {R1} {a : List Claim} (k : Int) [H1 : EncL Qc R1 a] : CP T (n + 2) 81 [.imm 5 R1, .i .i64 k] = (ZH a k).map fun r => .i .i64 r := by
 obtain ⟨rfl⟩ := H1
 rw [Qd]
 simp -dsimp +contextual only [↓evA, eZ, Nat.reduceAdd, Nat.reduceMul, Nat.reduceBEq, Nat.reduceLeDiff, Nat.reduceLT, Tryz.func81, Tryz.f81, a81, QeV]
 try simp only [ZH, eY]
 all_goals rfl
theorem Qe2 (n : Nat) {R1} {a : List Trial} (k : Int) (i : Int) [H1 : EncL Qk R1 a] : LP T (n + 1) 82 2 (frm [(0, .imm 4 R1), (1, .i .i64 k), (5, .i .i64 i)]) [] =
  VC (run (VX a) (k, i)) (fun (zr : Int) => (XE.ret, frm [(4, .i .i64 zr)], [])) (fun (zr : Int) => (XE.exit 0, frm [(1, .i .i64 zr)], [])) := by
 obtain ⟨rfl⟩ := H1
 rw [Qr]
 simp -dsimp only [↓evA, evB, Qj, Tryz.func82, Tryz.f82, a82, TP, TZ, Nat.reduceAdd, Nat.reduceMul, Nat.reduceBEq, Nat.reduceLeDiff, Nat.reduceLT]
 refine run_map (fun (zs : Int × Int) => (frm [(0, .imm 4 (a.map Qk)), (1, .i .i64 zs.1), (5, .i .i64 zs.2)], [])) (evO (fun (zr : Int) => (XE.ret, frm [(4, .i .i64 zr)], [])) (fun (zr : Int) => (XE.exit 0, frm [(1, .i .i64 zr)], []))) ?_ (k, i)
 rintro ⟨k, i⟩
 simp -dsimp +contextual only [↓evA, eZ, Nat.reduceAdd, Nat.reduceMul, Nat.reduceBEq, Nat.reduceLeDiff, Nat.reduceLT]
 try simp only [VX, eY]
 all_goals rfl
theorem QgR (n : Nat) {R1} {a : List Trial} (k : Int) [H1 : EncL Qk R1 a] : CP T (n + 2) 82 [.imm 4 R1, .i .i64 k] = (ZF a k).map fun r => .i .i64 r := by
 obtain ⟨rfl⟩ := H1
 rw [Qd]
 simp -dsimp +contextual only [↓evA, eZ, Nat.reduceAdd, Nat.reduceMul, Nat.reduceBEq, Nat.reduceLeDiff, Nat.reduceLT, Tryz.func82, Tryz.f82, a82, Qe2]
 try simp only [ZF, eY]
 all_goals rfl
theorem Qf4 (n : Nat) {R1} {a : List Hand} (k : Int) (i : Int) [H1 : EncL Qn R1 a] : LP T (n + 1) 83 2 (frm [(0, .imm 5 R1), (1, .i .i64 k), (5, .i .i64 i)]) [] =
  VC (run (Xu a) (k, i)) (fun (zr : Int) => (XE.ret, frm [(4, .i .i64 zr)], [])) (fun (zr : Int) => (XE.exit 0, frm [(1, .i .i64 zr)], [])) := by
 obtain ⟨rfl⟩ := H1
 rw [Qr]
 simp -dsimp only [↓evA, evB, Qj, Tryz.func83, Tryz.f83, a83, TP, TZ, Nat.reduceAdd, Nat.reduceMul, Nat.reduceBEq, Nat.reduceLeDiff, Nat.reduceLT]
 refine run_map (fun (zs : Int × Int) => (frm [(0, .imm 5 (a.map Qn)), (1, .i .i64 zs.1), (5, .i .i64 zs.2)], [])) (evO (fun (zr : Int) => (XE.ret, frm [(4, .i .i64 zr)], [])) (fun (zr : Int) => (XE.exit 0, frm [(1, .i .i64 zr)], []))) ?_ (k, i)
 rintro ⟨k, i⟩
 simp -dsimp +contextual only [↓evA, eZ, Nat.reduceAdd, Nat.reduceMul, Nat.reduceBEq, Nat.reduceLeDiff, Nat.reduceLT]
 try simp only [Xu, eY]
 all_goals rfl
theorem QiJ (n : Nat) {R1} {a : List Hand} (k : Int) [H1 : EncL Qn R1 a] : CP T (n + 2) 83 [.imm 5 R1, .i .i64 k] = (Qan a k).map fun r => .i .i64 r := by
 obtain ⟨rfl⟩ := H1
 rw [Qd]
 simp -dsimp +contextual only [↓evA, eZ, Nat.reduceAdd, Nat.reduceMul, Nat.reduceBEq, Nat.reduceLeDiff, Nat.reduceLT, Tryz.func83, Tryz.f83, a83, Qf4]
 try simp only [Qan, eY]
 all_goals rfl
theorem Qe7 (n : Nat) {R1} {a : List Entry} (k : Int) (i : Int) [H1 : EncL Qh R1 a] : LP T (n + 1) 84 2 (frm [(0, .imm 4 R1), (1, .i .i64 k), (5, .i .i64 i)]) [] =
  VC (run (V5 a) (k, i)) (fun (zr : Int) => (XE.ret, frm [(4, .i .i64 zr)], [])) (fun (zr : Int) => (XE.exit 0, frm [(1, .i .i64 zr)], [])) := by
 obtain ⟨rfl⟩ := H1
 rw [Qr]
 simp -dsimp only [↓evA, evB, Qj, Tryz.func84, Tryz.f84, a84, TP, TZ, Nat.reduceAdd, Nat.reduceMul, Nat.reduceBEq, Nat.reduceLeDiff, Nat.reduceLT]
 refine run_map (fun (zs : Int × Int) => (frm [(0, .imm 4 (a.map Qh)), (1, .i .i64 zs.1), (5, .i .i64 zs.2)], [])) (evO (fun (zr : Int) => (XE.ret, frm [(4, .i .i64 zr)], [])) (fun (zr : Int) => (XE.exit 0, frm [(1, .i .i64 zr)], []))) ?_ (k, i)
 rintro ⟨k, i⟩
 simp -dsimp +contextual only [↓evA, eZ, Nat.reduceAdd, Nat.reduceMul, Nat.reduceBEq, Nat.reduceLeDiff, Nat.reduceLT]
 try simp only [V5, eY]
 all_goals rfl
theorem QgV (n : Nat) {R1} {a : List Entry} (k : Int) [H1 : EncL Qh R1 a] : CP T (n + 2) 84 [.imm 4 R1, .i .i64 k] = (ZD a k).map fun r => .i .i64 r := by
 obtain ⟨rfl⟩ := H1
 rw [Qd]
 simp -dsimp +contextual only [↓evA, eZ, Nat.reduceAdd, Nat.reduceMul, Nat.reduceBEq, Nat.reduceLeDiff, Nat.reduceLT, Tryz.func84, Tryz.f84, a84, Qe7]
 try simp only [ZD, eY]
 all_goals rfl
theorem Qia (n : Nat) (axNo : Int) {R1} {axFinds : List Find} {R2} {axSecrets : List Secret} {R3} {axSlots : List Slot} {R4} {axClaims : List Claim} {R5} {axTrials : List Trial} {R6} {axChain : List Hand} {R7} {axBook : List Entry} (axNow : Int) (k : Int) [H1 : EncL Qp R1 axFinds] [H2 : EncL Qe R2 axSecrets] [H3 : EncL Qm R3 axSlots] [H4 : EncL Qc R4 axClaims] [H5 : EncL Qk R5 axTrials] [H6 : EncL Qn R6 axChain] [H7 : EncL Qh R7 axBook] : CP T (n + 5) 21 [.agg [.i .i64 axNo, .imm 8 R1, .imm 3 R2, .imm 3 R3, .imm 5 R4, .imm 4 R5, .imm 5 R6, .imm 4 R7, .i .i64 axNow], .i .i64 k] = (Jg (⟨axNo, axFinds, axSecrets, axSlots, axClaims, axTrials, axChain, axBook, axNow⟩ : House) k).map fun r => .i .i64 r := by
 rcases H1, H2, H3, H4, H5, H6, H7 with ⟨⟨rfl⟩, ⟨rfl⟩, ⟨rfl⟩, ⟨rfl⟩, ⟨rfl⟩, ⟨rfl⟩, ⟨rfl⟩⟩
 rw [Qd]
 simp -dsimp +contextual (maxSteps := 100000000) only [↓evA, eZ, Nat.reduceAdd, Nat.reduceMul, Nat.reduceBEq, Nat.reduceLeDiff, Nat.reduceLT, Tryz.func21, Tryz.f21, a21, QiI, Qgi, QiB, QgT, QgR, QiJ, QgV]
 try simp only [Jg, eY]
 all_goals rfl
theorem QdY (n : Nat) (aHxNo : Int) {R1} {aHxFinds : List Find} {R2} {aHxSecrets : List Secret} {R3} {aHxSlots : List Slot} {R4} {aHxClaims : List Claim} {R5} {aHxTrials : List Trial} {R6} {aHxChain : List Hand} {R7} {aHxBook : List Entry} (aHxNow : Int) (a : Int) {R8} {a2 : List Bid} [H1 : EncL Qp R1 aHxFinds] [H2 : EncL Qe R2 aHxSecrets] [H3 : EncL Qm R3 aHxSlots] [H4 : EncL Qc R4 aHxClaims] [H5 : EncL Qk R5 aHxTrials] [H6 : EncL Qn R6 aHxChain] [H7 : EncL Qh R7 aHxBook] [H8 : EncL QY R8 a2] : CP T (n + 14) 10 [.agg [.i .i64 aHxNo, .imm 8 R1, .imm 3 R2, .imm 3 R3, .imm 5 R4, .imm 4 R5, .imm 5 R6, .imm 4 R7, .i .i64 aHxNow], .i .i64 a, .imm 3 R8] = (JL (⟨aHxNo, aHxFinds, aHxSecrets, aHxSlots, aHxClaims, aHxTrials, aHxChain, aHxBook, aHxNow⟩ : House) a a2).map fun r => .b r := by
 rcases H1, H2, H3, H4, H5, H6, H7, H8 with ⟨⟨rfl⟩, ⟨rfl⟩, ⟨rfl⟩, ⟨rfl⟩, ⟨rfl⟩, ⟨rfl⟩, ⟨rfl⟩, ⟨rfl⟩⟩
 rw [Qd]
 simp -dsimp +contextual (maxSteps := 100000000) only [↓evA, eZ, Nat.reduceAdd, Nat.reduceMul, Nat.reduceBEq, Nat.reduceLeDiff, Nat.reduceLT, Tryz.func10, Tryz.f10, a10, srt, Qkd, Qmg, QlN, Qmd, Qjj, Qji, QjW, Qmh, Qix, QjE, Qia]
 try simp only [JL, eY]
 all_goals rfl
end Go.Proofs.YtcdffihcfeajfaaGreat
