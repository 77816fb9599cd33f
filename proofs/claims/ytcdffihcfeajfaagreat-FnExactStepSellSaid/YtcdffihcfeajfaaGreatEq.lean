import Derived.Test.YtcdffihcfeajfaaGreatEq4
namespace Go.Proofs.YtcdffihcfeajfaaGreat
open Go Go.Proofs Go.Proofs.YtcdffihcfeajfaaGreat.Am
set_option maxHeartbeats 4000000
set_option linter.unusedVariables false
set_option linter.unusedSimpArgs false
set_option linter.defProp false
set_option maxRecDepth 100000
theorem Qg2 (n : Nat) {R1} {a : List Entry} (k : Int) [H1 : EncL Qg R1 a] : CA T (n + 2) 77 [some (Ent.lst 4 R1)] [.sl 0, .i .i64 k] = (ZO a k).map fun r => (.i .i64 r.2, [some (Ent.lst 4 (r.1.map Qg))]) := by
 obtain ⟨rfl⟩ := H1
 rw [QdK]
 simp -dsimp +contextual only [↓evA, eZ, Nat.reduceAdd, Nat.reduceMul, Nat.reduceBEq, Nat.reduceLeDiff, Nat.reduceLT, Tryz.func77, Tryz.f77, a77, QeJ]
 try simp only [ZO, eY]
 all_goals rfl
theorem QiH (n : Nat) (axNo : Int) {R1} {axFinds : List Find} {R2} {axSecrets : List Secret} {R3} {axSlots : List Slot} {R4} {axClaims : List Claim} {R5} {axTrials : List Trial} {R6} {axChain : List Hand} {R7} {axBook : List Entry} (axNow : Int) (k : Int) [H1 : EncL Qp R1 axFinds] [H2 : EncL QP R2 axSecrets] [H3 : EncL Ql R3 axSlots] [H4 : EncL Qc R4 axClaims] [H5 : EncL Qk R5 axTrials] [H6 : EncL Qn R6 axChain] [H7 : EncL Qg R7 axBook] : CA T (n + 5) 20 [some (Ent.lst 8 R1), some (Ent.lst 3 R2), some (Ent.lst 3 R3), some (Ent.lst 5 R4), some (Ent.lst 4 R5), some (Ent.lst 5 R6), some (Ent.lst 4 R7)] [.agg [.i .i64 axNo, .sl 0, .sl 1, .sl 2, .sl 3, .sl 4, .sl 5, .sl 6, .i .i64 axNow], .i .i64 k] = (VJ (⟨axNo, axFinds, axSecrets, axSlots, axClaims, axTrials, axChain, axBook, axNow⟩ : House) k).map fun r => (.i .i64 r.2, [some (Ent.lst 8 (r.1.Finds.map Qp)), some (Ent.lst 3 (r.1.Secrets.map QP)), some (Ent.lst 3 (r.1.Slots.map Ql)), some (Ent.lst 5 (r.1.Claims.map Qc)), some (Ent.lst 4 (r.1.Trials.map Qk)), some (Ent.lst 5 (r.1.Chain.map Qn)), some (Ent.lst 4 (r.1.Book.map Qg))]) := by
 rcases H1, H2, H3, H4, H5, H6, H7 with ⟨⟨rfl⟩, ⟨rfl⟩, ⟨rfl⟩, ⟨rfl⟩, ⟨rfl⟩, ⟨rfl⟩, ⟨rfl⟩⟩
 rw [QdK]
 simp -dsimp +contextual (maxSteps := 100000000) only [↓evA, eZ, Nat.reduceAdd, Nat.reduceMul, Nat.reduceBEq, Nat.reduceLeDiff, Nat.reduceLT, Tryz.func20, Tryz.f20, a20, srt, QiA, Qgn, Qik, QgS, QgW, Qix, Qg2]
 try simp only [VJ, eY]
 all_goals rfl
theorem Qge (n : Nat) {R1} {a : List Bid} (k : Int) (i : Int) [H1 : EncL Q0 R1 a] : LP T (n + 1) 46 2 (frm [(0, .sl 0), (1, .i .i64 k), (5, .i .i64 i)]) [some (Ent.lst 3 R1)] =
  (run X9 (a, k, i)).map (fun (zr : (List Bid) × Int) => (XE.exit 0, frm [(0, .sl 0), (1, .i .i64 zr.2)], [some (Ent.lst 3 (zr.1.map Q0))])) := by
 obtain ⟨rfl⟩ := H1
 rw [Qr]
 simp -dsimp only [↓evA, evB, Qj, Tryz.func46, Tryz.f46, a46, TP, TZ, Nat.reduceAdd, Nat.reduceMul, Nat.reduceBEq, Nat.reduceLeDiff, Nat.reduceLT]
 refine run_map (fun (zs : (List Bid) × Int × Int) => (frm [(0, .sl 0), (1, .i .i64 zs.2.1), (5, .i .i64 zs.2.2)], [some (Ent.lst 3 (zs.1.map Q0))])) (fun (zr : (List Bid) × Int) => (XE.exit 0, frm [(0, .sl 0), (1, .i .i64 zr.2)], [some (Ent.lst 3 (zr.1.map Q0))])) ?_ (a, k, i)
 rintro ⟨a, k, i⟩
 simp -dsimp +contextual only [↓evA, eZ, Nat.reduceAdd, Nat.reduceMul, Nat.reduceBEq, Nat.reduceLeDiff, Nat.reduceLT]
 try simp only [X9, eY]
 all_goals rfl
theorem QjD (n : Nat) {R1} {a : List Bid} (k : Int) [H1 : EncL Q0 R1 a] : CA T (n + 2) 46 [some (Ent.lst 3 R1)] [.sl 0, .i .i64 k] = (QaL a k).map fun r => (.i .i64 r.2, [some (Ent.lst 3 (r.1.map Q0))]) := by
 obtain ⟨rfl⟩ := H1
 rw [QdK]
 simp -dsimp +contextual only [↓evA, eZ, Nat.reduceAdd, Nat.reduceMul, Nat.reduceBEq, Nat.reduceLeDiff, Nat.reduceLT, Tryz.func46, Tryz.f46, a46, Qge]
 try simp only [QaL, eY]
 all_goals rfl
theorem QfS (n : Nat) {R1} {a : List Find} (t1 : Int) (t5 : Int) [H1 : EncL Qp R1 a] : LP T (n + 1) 78 2 (frm [(0, .imm 8 R1), (1, .i .i64 t1), (5, .i .i64 t5)]) [] =
  VE (run (XC a) (t1, t5)) (fun (zr : Int) => (XE.ret, frm [(4, .i .i64 zr)], [])) (fun (zr : Int) => (XE.exit 0, frm [(1, .i .i64 zr)], [])) := by
 obtain ⟨rfl⟩ := H1
 rw [Qr]
 simp -dsimp only [↓evA, evB, Qj, Tryz.func78, Tryz.f78, a78, TP, TZ, Nat.reduceAdd, Nat.reduceMul, Nat.reduceBEq, Nat.reduceLeDiff, Nat.reduceLT]
 refine run_map (fun (zs : Int × Int) => (frm [(0, .imm 8 (a.map Qp)), (1, .i .i64 zs.1), (5, .i .i64 zs.2)], [])) (evO (fun (zr : Int) => (XE.ret, frm [(4, .i .i64 zr)], [])) (fun (zr : Int) => (XE.exit 0, frm [(1, .i .i64 zr)], []))) ?_ (t1, t5)
 rintro ⟨t1, t5⟩
 simp -dsimp +contextual only [↓evA, eZ, Nat.reduceAdd, Nat.reduceMul, Nat.reduceBEq, Nat.reduceLeDiff, Nat.reduceLT]
 try simp only [XC, eY]
 all_goals rfl
theorem Qib (n : Nat) {R1} {a : List Find} (a2 : Int) [H1 : EncL Qp R1 a] : CP T (n + 2) 78 [.imm 8 R1, .i .i64 a2] = (Qal a a2).map fun r => .i .i64 r := by
 obtain ⟨rfl⟩ := H1
 rw [Qd]
 simp -dsimp +contextual only [↓evA, eZ, Nat.reduceAdd, Nat.reduceMul, Nat.reduceBEq, Nat.reduceLeDiff, Nat.reduceLT, Tryz.func78, Tryz.f78, a78, QfS]
 try simp only [Qal, eY]
 all_goals rfl
theorem QfT (n : Nat) {R1} {a : List Mark} (k : Int) (i : Int) [H1 : EncL Q4 R1 a] : LP T (n + 1) 170 2 (frm [(0, .imm 2 R1), (1, .i .i64 k), (5, .i .i64 i)]) [] =
  VE (run (XD a) (k, i)) (fun (zr : Int) => (XE.ret, frm [(4, .i .i64 zr)], [])) (fun (zr : Int) => (XE.exit 0, frm [(1, .i .i64 zr)], [])) := by
 obtain ⟨rfl⟩ := H1
 rw [Qr]
 simp -dsimp only [↓evA, evB, Qj, Tryz.func170, Tryz.f170, QJW, TP, TZ, Nat.reduceAdd, Nat.reduceMul, Nat.reduceBEq, Nat.reduceLeDiff, Nat.reduceLT]
 refine run_map (fun (zs : Int × Int) => (frm [(0, .imm 2 (a.map Q4)), (1, .i .i64 zs.1), (5, .i .i64 zs.2)], [])) (evO (fun (zr : Int) => (XE.ret, frm [(4, .i .i64 zr)], [])) (fun (zr : Int) => (XE.exit 0, frm [(1, .i .i64 zr)], []))) ?_ (k, i)
 rintro ⟨k, i⟩
 simp -dsimp +contextual only [↓evA, eZ, Nat.reduceAdd, Nat.reduceMul, Nat.reduceBEq, Nat.reduceLeDiff, Nat.reduceLT]
 try simp only [XD, eY]
 all_goals rfl
theorem QiK (n : Nat) {R1} {a : List Mark} (k : Int) [H1 : EncL Q4 R1 a] : CP T (n + 2) 170 [.imm 2 R1, .i .i64 k] = (Qae a k).map fun r => .i .i64 r := by
 obtain ⟨rfl⟩ := H1
 rw [Qd]
 simp -dsimp +contextual only [↓evA, eZ, Nat.reduceAdd, Nat.reduceMul, Nat.reduceBEq, Nat.reduceLeDiff, Nat.reduceLT, Tryz.func170, Tryz.f170, QJW, QfT]
 try simp only [Qae, eY]
 all_goals rfl
theorem Qew (n : Nat) {R1} {a : List Secret} (k : Int) (i : Int) [H1 : EncL Qe R1 a] : LP T (n + 3) 79 2 (frm [(0, .imm 3 R1), (1, .i .i64 k), (5, .i .i64 i)]) [] =
  VE (run (VN a) (k, i)) (fun (zr : Int) => (XE.ret, frm [(4, .i .i64 zr)], [])) (fun (zr : Int) => (XE.exit 0, frm [(1, .i .i64 zr)], [])) := by
 obtain ⟨rfl⟩ := H1
 rw [Qr]
 simp -dsimp only [↓evA, evB, Qj, Tryz.func79, Tryz.f79, a79, TP, TZ, Nat.reduceAdd, Nat.reduceMul, Nat.reduceBEq, Nat.reduceLeDiff, Nat.reduceLT]
 refine run_map (fun (zs : Int × Int) => (frm [(0, .imm 3 (a.map Qe)), (1, .i .i64 zs.1), (5, .i .i64 zs.2)], [])) (evO (fun (zr : Int) => (XE.ret, frm [(4, .i .i64 zr)], [])) (fun (zr : Int) => (XE.exit 0, frm [(1, .i .i64 zr)], []))) ?_ (k, i)
 rintro ⟨k, i⟩
 simp -dsimp +contextual only [↓evA, eZ, Nat.reduceAdd, Nat.reduceMul, Nat.reduceBEq, Nat.reduceLeDiff, Nat.reduceLT, QiK]
 try simp only [VN, eY]
 all_goals rfl
theorem Qgr (n : Nat) {R1} {a : List Secret} (k : Int) [H1 : EncL Qe R1 a] : CP T (n + 4) 79 [.imm 3 R1, .i .i64 k] = (J5 a k).map fun r => .i .i64 r := by
 obtain ⟨rfl⟩ := H1
 rw [Qd]
 simp -dsimp +contextual only [↓evA, eZ, Nat.reduceAdd, Nat.reduceMul, Nat.reduceBEq, Nat.reduceLeDiff, Nat.reduceLT, Tryz.func79, Tryz.f79, a79, Qew]
 try simp only [J5, eY]
 all_goals rfl
theorem QfM (n : Nat) {R1} {a : List Slot} (k : Int) (i : Int) [H1 : EncL Ql R1 a] : LP T (n + 1) 80 2 (frm [(0, .imm 3 R1), (1, .i .i64 k), (5, .i .i64 i)]) [] =
  VE (run (Xv a) (k, i)) (fun (zr : Int) => (XE.ret, frm [(4, .i .i64 zr)], [])) (fun (zr : Int) => (XE.exit 0, frm [(1, .i .i64 zr)], [])) := by
 obtain ⟨rfl⟩ := H1
 rw [Qr]
 simp -dsimp only [↓evA, evB, Qj, Tryz.func80, Tryz.f80, a80, TP, TZ, Nat.reduceAdd, Nat.reduceMul, Nat.reduceBEq, Nat.reduceLeDiff, Nat.reduceLT]
 refine run_map (fun (zs : Int × Int) => (frm [(0, .imm 3 (a.map Ql)), (1, .i .i64 zs.1), (5, .i .i64 zs.2)], [])) (evO (fun (zr : Int) => (XE.ret, frm [(4, .i .i64 zr)], [])) (fun (zr : Int) => (XE.exit 0, frm [(1, .i .i64 zr)], []))) ?_ (k, i)
 rintro ⟨k, i⟩
 simp -dsimp +contextual only [↓evA, eZ, Nat.reduceAdd, Nat.reduceMul, Nat.reduceBEq, Nat.reduceLeDiff, Nat.reduceLT]
 try simp only [Xv, eY]
 all_goals rfl
theorem Qit (n : Nat) {R1} {a : List Slot} (k : Int) [H1 : EncL Ql R1 a] : CP T (n + 2) 80 [.imm 3 R1, .i .i64 k] = (Qai a k).map fun r => .i .i64 r := by
 obtain ⟨rfl⟩ := H1
 rw [Qd]
 simp -dsimp +contextual only [↓evA, eZ, Nat.reduceAdd, Nat.reduceMul, Nat.reduceBEq, Nat.reduceLeDiff, Nat.reduceLT, Tryz.func80, Tryz.f80, a80, QfM]
 try simp only [Qai, eY]
 all_goals rfl
theorem Qe6 (n : Nat) {R1} {a : List Claim} (k : Int) (i : Int) [H1 : EncL Qc R1 a] : LP T (n + 1) 81 2 (frm [(0, .imm 5 R1), (1, .i .i64 k), (5, .i .i64 i)]) [] =
  VE (run (V6 a) (k, i)) (fun (zr : Int) => (XE.ret, frm [(4, .i .i64 zr)], [])) (fun (zr : Int) => (XE.exit 0, frm [(1, .i .i64 zr)], [])) := by
 obtain ⟨rfl⟩ := H1
 rw [Qr]
 simp -dsimp only [↓evA, evB, Qj, Tryz.func81, Tryz.f81, a81, TP, TZ, Nat.reduceAdd, Nat.reduceMul, Nat.reduceBEq, Nat.reduceLeDiff, Nat.reduceLT]
 refine run_map (fun (zs : Int × Int) => (frm [(0, .imm 5 (a.map Qc)), (1, .i .i64 zs.1), (5, .i .i64 zs.2)], [])) (evO (fun (zr : Int) => (XE.ret, frm [(4, .i .i64 zr)], [])) (fun (zr : Int) => (XE.exit 0, frm [(1, .i .i64 zr)], []))) ?_ (k, i)
 rintro ⟨k, i⟩
 simp -dsimp +contextual only [↓evA, eZ, Nat.reduceAdd, Nat.reduceMul, Nat.reduceBEq, Nat.reduceLeDiff, Nat.reduceLT]
 try simp only [V6, eY]
 all_goals rfl
theorem QhG (n : Nat) {R1} {a : List Claim} (k : Int) [H1 : EncL Qc R1 a] : CP T (n + 2) 81 [.imm 5 R1, .i .i64 k] = (ZG a k).map fun r => .i .i64 r := by
 obtain ⟨rfl⟩ := H1
 rw [Qd]
 simp -dsimp +contextual only [↓evA, eZ, Nat.reduceAdd, Nat.reduceMul, Nat.reduceBEq, Nat.reduceLeDiff, Nat.reduceLT, Tryz.func81, Tryz.f81, a81, Qe6]
 try simp only [ZG, eY]
 all_goals rfl
theorem QeU (n : Nat) {R1} {a : List Trial} (k : Int) (i : Int) [H1 : EncL Qk R1 a] : LP T (n + 1) 82 2 (frm [(0, .imm 4 R1), (1, .i .i64 k), (5, .i .i64 i)]) [] =
  VE (run (V5 a) (k, i)) (fun (zr : Int) => (XE.ret, frm [(4, .i .i64 zr)], [])) (fun (zr : Int) => (XE.exit 0, frm [(1, .i .i64 zr)], [])) := by
 obtain ⟨rfl⟩ := H1
 rw [Qr]
 simp -dsimp only [↓evA, evB, Qj, Tryz.func82, Tryz.f82, a82, TP, TZ, Nat.reduceAdd, Nat.reduceMul, Nat.reduceBEq, Nat.reduceLeDiff, Nat.reduceLT]
 refine run_map (fun (zs : Int × Int) => (frm [(0, .imm 4 (a.map Qk)), (1, .i .i64 zs.1), (5, .i .i64 zs.2)], [])) (evO (fun (zr : Int) => (XE.ret, frm [(4, .i .i64 zr)], [])) (fun (zr : Int) => (XE.exit 0, frm [(1, .i .i64 zr)], []))) ?_ (k, i)
 rintro ⟨k, i⟩
 simp -dsimp +contextual only [↓evA, eZ, Nat.reduceAdd, Nat.reduceMul, Nat.reduceBEq, Nat.reduceLeDiff, Nat.reduceLT]
 try simp only [V5, eY]
 all_goals rfl
theorem QhY (n : Nat) {R1} {a : List Trial} (k : Int) [H1 : EncL Qk R1 a] : CP T (n + 2) 82 [.imm 4 R1, .i .i64 k] = (ZE a k).map fun r => .i .i64 r := by
 obtain ⟨rfl⟩ := H1
 rw [Qd]
 simp -dsimp +contextual only [↓evA, eZ, Nat.reduceAdd, Nat.reduceMul, Nat.reduceBEq, Nat.reduceLeDiff, Nat.reduceLT, Tryz.func82, Tryz.f82, a82, QeU]
 try simp only [ZE, eY]
 all_goals rfl
theorem QfW (n : Nat) {R1} {a : List Hand} (k : Int) (i : Int) [H1 : EncL Qn R1 a] : LP T (n + 1) 83 2 (frm [(0, .imm 5 R1), (1, .i .i64 k), (5, .i .i64 i)]) [] =
  VE (run (Xt a) (k, i)) (fun (zr : Int) => (XE.ret, frm [(4, .i .i64 zr)], [])) (fun (zr : Int) => (XE.exit 0, frm [(1, .i .i64 zr)], [])) := by
 obtain ⟨rfl⟩ := H1
 rw [Qr]
 simp -dsimp only [↓evA, evB, Qj, Tryz.func83, Tryz.f83, a83, TP, TZ, Nat.reduceAdd, Nat.reduceMul, Nat.reduceBEq, Nat.reduceLeDiff, Nat.reduceLT]
 refine run_map (fun (zs : Int × Int) => (frm [(0, .imm 5 (a.map Qn)), (1, .i .i64 zs.1), (5, .i .i64 zs.2)], [])) (evO (fun (zr : Int) => (XE.ret, frm [(4, .i .i64 zr)], [])) (fun (zr : Int) => (XE.exit 0, frm [(1, .i .i64 zr)], []))) ?_ (k, i)
 rintro ⟨k, i⟩
 simp -dsimp +contextual only [↓evA, eZ, Nat.reduceAdd, Nat.reduceMul, Nat.reduceBEq, Nat.reduceLeDiff, Nat.reduceLT]
 try simp only [Xt, eY]
 all_goals rfl
theorem QiO (n : Nat) {R1} {a : List Hand} (k : Int) [H1 : EncL Qn R1 a] : CP T (n + 2) 83 [.imm 5 R1, .i .i64 k] = (Qam a k).map fun r => .i .i64 r := by
 obtain ⟨rfl⟩ := H1
 rw [Qd]
 simp -dsimp +contextual only [↓evA, eZ, Nat.reduceAdd, Nat.reduceMul, Nat.reduceBEq, Nat.reduceLeDiff, Nat.reduceLT, Tryz.func83, Tryz.f83, a83, QfW]
 try simp only [Qam, eY]
 all_goals rfl
theorem QeP (n : Nat) {R1} {a : List Entry} (k : Int) (i : Int) [H1 : EncL Qg R1 a] : LP T (n + 1) 84 2 (frm [(0, .imm 4 R1), (1, .i .i64 k), (5, .i .i64 i)]) [] =
  VE (run (V2 a) (k, i)) (fun (zr : Int) => (XE.ret, frm [(4, .i .i64 zr)], [])) (fun (zr : Int) => (XE.exit 0, frm [(1, .i .i64 zr)], [])) := by
 obtain ⟨rfl⟩ := H1
 rw [Qr]
 simp -dsimp only [↓evA, evB, Qj, Tryz.func84, Tryz.f84, a84, TP, TZ, Nat.reduceAdd, Nat.reduceMul, Nat.reduceBEq, Nat.reduceLeDiff, Nat.reduceLT]
 refine run_map (fun (zs : Int × Int) => (frm [(0, .imm 4 (a.map Qg)), (1, .i .i64 zs.1), (5, .i .i64 zs.2)], [])) (evO (fun (zr : Int) => (XE.ret, frm [(4, .i .i64 zr)], [])) (fun (zr : Int) => (XE.exit 0, frm [(1, .i .i64 zr)], []))) ?_ (k, i)
 rintro ⟨k, i⟩
 simp -dsimp +contextual only [↓evA, eZ, Nat.reduceAdd, Nat.reduceMul, Nat.reduceBEq, Nat.reduceLeDiff, Nat.reduceLT]
 try simp only [V2, eY]
 all_goals rfl
theorem Qhf (n : Nat) {R1} {a : List Entry} (k : Int) [H1 : EncL Qg R1 a] : CP T (n + 2) 84 [.imm 4 R1, .i .i64 k] = (ZN a k).map fun r => .i .i64 r := by
 obtain ⟨rfl⟩ := H1
 rw [Qd]
 simp -dsimp +contextual only [↓evA, eZ, Nat.reduceAdd, Nat.reduceMul, Nat.reduceBEq, Nat.reduceLeDiff, Nat.reduceLT, Tryz.func84, Tryz.f84, a84, QeP]
 try simp only [ZN, eY]
 all_goals rfl
theorem Qis (n : Nat) (axNo : Int) {R1} {axFinds : List Find} {R2} {axSecrets : List Secret} {R3} {axSlots : List Slot} {R4} {axClaims : List Claim} {R5} {axTrials : List Trial} {R6} {axChain : List Hand} {R7} {axBook : List Entry} (axNow : Int) (k : Int) [H1 : EncL Qp R1 axFinds] [H2 : EncL Qe R2 axSecrets] [H3 : EncL Ql R3 axSlots] [H4 : EncL Qc R4 axClaims] [H5 : EncL Qk R5 axTrials] [H6 : EncL Qn R6 axChain] [H7 : EncL Qg R7 axBook] : CP T (n + 5) 21 [.agg [.i .i64 axNo, .imm 8 R1, .imm 3 R2, .imm 3 R3, .imm 5 R4, .imm 4 R5, .imm 5 R6, .imm 4 R7, .i .i64 axNow], .i .i64 k] = (Jh (⟨axNo, axFinds, axSecrets, axSlots, axClaims, axTrials, axChain, axBook, axNow⟩ : House) k).map fun r => .i .i64 r := by
 rcases H1, H2, H3, H4, H5, H6, H7 with ⟨⟨rfl⟩, ⟨rfl⟩, ⟨rfl⟩, ⟨rfl⟩, ⟨rfl⟩, ⟨rfl⟩, ⟨rfl⟩⟩
 rw [Qd]
 simp -dsimp +contextual (maxSteps := 100000000) only [↓evA, eZ, Nat.reduceAdd, Nat.reduceMul, Nat.reduceBEq, Nat.reduceLeDiff, Nat.reduceLT, Tryz.func21, Tryz.f21, a21, Qib, Qgr, Qit, QhG, QhY, QiO, Qhf]
 try simp only [Jh, eY]
 all_goals rfl
theorem Qec (n : Nat) (aHxNo : Int) {R1} {aHxFinds : List Find} {R2} {aHxSecrets : List Secret} {R3} {aHxSlots : List Slot} {R4} {aHxClaims : List Claim} {R5} {aHxTrials : List Trial} {R6} {aHxChain : List Hand} {R7} {aHxBook : List Entry} (aHxNow : Int) (a : Int) {R8} {a2 : List Bid} [H1 : EncL Qp R1 aHxFinds] [H2 : EncL Qe R2 aHxSecrets] [H3 : EncL Ql R3 aHxSlots] [H4 : EncL Qc R4 aHxClaims] [H5 : EncL Qk R5 aHxTrials] [H6 : EncL Qn R6 aHxChain] [H7 : EncL Qg R7 aHxBook] [H8 : EncL Q0 R8 a2] : CP T (n + 14) 10 [.agg [.i .i64 aHxNo, .imm 8 R1, .imm 3 R2, .imm 3 R3, .imm 5 R4, .imm 4 R5, .imm 5 R6, .imm 4 R7, .i .i64 aHxNow], .i .i64 a, .imm 3 R8] = (JM (⟨aHxNo, aHxFinds, aHxSecrets, aHxSlots, aHxClaims, aHxTrials, aHxChain, aHxBook, aHxNow⟩ : House) a a2).map fun r => .b r := by
 rcases H1, H2, H3, H4, H5, H6, H7, H8 with ⟨⟨rfl⟩, ⟨rfl⟩, ⟨rfl⟩, ⟨rfl⟩, ⟨rfl⟩, ⟨rfl⟩, ⟨rfl⟩, ⟨rfl⟩⟩
 rw [Qd]
 simp -dsimp +contextual (maxSteps := 100000000) only [↓evA, eZ, Nat.reduceAdd, Nat.reduceMul, Nat.reduceBEq, Nat.reduceLeDiff, Nat.reduceLT, Tryz.func10, Tryz.f10, a10, srt, Qlh, Qmh, Qlj, Ql1, Qjg, Qjv, QjV, Qmc, QiH, QjD, Qis]
 try simp only [JM, eY]
 all_goals rfl
end Go.Proofs.YtcdffihcfeajfaaGreat
