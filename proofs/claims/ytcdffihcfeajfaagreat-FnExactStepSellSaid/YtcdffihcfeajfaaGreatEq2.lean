import Derived.Test.YtcdffihcfeajfaaGreatEq1
namespace Go.Proofs.YtcdffihcfeajfaaGreat
open Go Go.Proofs Go.Proofs.YtcdffihcfeajfaaGreat.Am
set_option maxHeartbeats 4000000
set_option linter.unusedVariables false
set_option linter.unusedSimpArgs false
set_option linter.defProp false
set_option maxRecDepth 100000
theorem QeZ (n : Nat) {R1} {l : List Hand} (thing : Int) (before : Int) [H1 : EncL Qn R1 l] : CP T (n + 2) 230 [.imm 5 R1, .i .i64 thing, .i .i64 before] = (QaB l thing before).map fun r => .i .i64 r := by
 obtain ⟨rfl⟩ := H1
 rw [Qd]
 simp -dsimp +contextual only [↓evA, eZ, Nat.reduceAdd, Nat.reduceMul, Nat.reduceBEq, Nat.reduceLeDiff, Nat.reduceLT, Tryz.func230, Tryz.f230, QCk, QhS]
 try simp only [QaB, eY]
 all_goals rfl
theorem QhJ (n : Nat) {R1} {l : List Hand} (t3 : Int) (t4 : Int) [H1 : EncL Qn R1 l] : LP T (n + 6) 152 3 (frm [(0, .imm 5 R1), (3, .i .i64 t3), (4, .i .i64 t4)]) [] =
  VC (run (QE l) (t3, t4)) (fun (zr : Bool) => (XE.ret, frm [(2, .b zr)], [])) (fun (zr : Unit) => (XE.exit 0, frm [(0, .imm 5 (l.map Qn))], [])) := by
 obtain ⟨rfl⟩ := H1
 rw [Qr]
 simp -dsimp only [↓evA, evB, Qj, Tryz.func152, Tryz.f152, QGm, TP, TZ, Nat.reduceAdd, Nat.reduceMul, Nat.reduceBEq, Nat.reduceLeDiff, Nat.reduceLT]
 refine run_map (fun (zs : Int × Int) => (frm [(0, .imm 5 (l.map Qn)), (3, .i .i64 zs.1), (4, .i .i64 zs.2)], [])) (evO (fun (zr : Bool) => (XE.ret, frm [(2, .b zr)], [])) (fun (zr : Unit) => (XE.exit 0, frm [(0, .imm 5 (l.map Qn))], []))) ?_ (t3, t4)
 rintro ⟨t3, t4⟩
 simp -dsimp +contextual only [↓evA, eZ, Nat.reduceAdd, Nat.reduceMul, Nat.reduceBEq, Nat.reduceLeDiff, Nat.reduceLT, Qeg, Vj, QeZ]
 try simp only [QE, eY]
 all_goals rfl
theorem Qc5 (n : Nat) {R1} {l : List Hand} [H1 : EncL Qn R1 l] : CP T (n + 7) 152 [.imm 5 R1] = (Vr l).map fun r => .b r := by
 obtain ⟨rfl⟩ := H1
 rw [Qd]
 simp -dsimp +contextual only [↓evA, eZ, Nat.reduceAdd, Nat.reduceMul, Nat.reduceBEq, Nat.reduceLeDiff, Nat.reduceLT, Tryz.func152, Tryz.f152, QGm, QhJ]
 try simp only [Vr, eY]
 all_goals rfl
theorem QeG (n : Nat) {R1} {l : List Entry} (i : Int) [H1 : EncL Qh R1 l] : LP T (n + 2) 153 2 (frm [(0, .imm 4 R1), (3, .i .i64 i)]) [] =
  VC (run (Vz l) i) (fun (zr : Bool) => (XE.ret, frm [(2, .b zr)], [])) (fun (zr : Unit) => (XE.exit 0, frm [(0, .imm 4 (l.map Qh))], [])) := by
 obtain ⟨rfl⟩ := H1
 rw [Qr]
 simp -dsimp only [↓evA, evB, Qj, Tryz.func153, Tryz.f153, QHo, TP, TZ, Nat.reduceAdd, Nat.reduceMul, Nat.reduceBEq, Nat.reduceLeDiff, Nat.reduceLT]
 refine run_map (fun (zs : Int) => (frm [(0, .imm 4 (l.map Qh)), (3, .i .i64 zs)], [])) (evO (fun (zr : Bool) => (XE.ret, frm [(2, .b zr)], [])) (fun (zr : Unit) => (XE.exit 0, frm [(0, .imm 4 (l.map Qh))], []))) ?_ i
 intro i
 simp -dsimp +contextual only [↓evA, eZ, Nat.reduceAdd, Nat.reduceMul, Nat.reduceBEq, Nat.reduceLeDiff, Nat.reduceLT, Vj]
 try simp only [Vz, eY]
 all_goals rfl
theorem Qdp (n : Nat) {R1} {l : List Entry} [H1 : EncL Qh R1 l] : CP T (n + 3) 153 [.imm 4 R1] = (XN l).map fun r => .b r := by
 obtain ⟨rfl⟩ := H1
 rw [Qd]
 simp -dsimp +contextual only [↓evA, eZ, Nat.reduceAdd, Nat.reduceMul, Nat.reduceBEq, Nat.reduceLeDiff, Nat.reduceLT, Tryz.func153, Tryz.f153, QHo, QeG]
 try simp only [XN, eY]
 all_goals rfl
theorem Qjr (n : Nat) {R1} {l : List Int} (vn : Int) (k : Int) [H1 : EncL Qt R1 l] : LP T (n + 1) 264 2 (frm [(0, .imm 1 R1), (1, .i .i64 vn), (5, .i .i64 k)]) [] =
  (run (XT l vn) k).map (fun (zr : Int) => (XE.exit 0, frm [(0, .imm 1 (l.map Qt)), (1, .i .i64 vn), (5, .i .i64 zr)], [])) := by
 obtain ⟨rfl⟩ := H1
 rw [Qr]
 simp -dsimp only [↓evA, evB, Qj, Tryz.func264, Tryz.f264, QBO, TP, TZ, Nat.reduceAdd, Nat.reduceMul, Nat.reduceBEq, Nat.reduceLeDiff, Nat.reduceLT]
 refine run_map (fun (zs : Int) => (frm [(0, .imm 1 (l.map Qt)), (1, .i .i64 vn), (5, .i .i64 zs)], [])) (fun (zr : Int) => (XE.exit 0, frm [(0, .imm 1 (l.map Qt)), (1, .i .i64 vn), (5, .i .i64 zr)], [])) ?_ k
 intro k
 simp -dsimp +contextual only [↓evA, eZ, Nat.reduceAdd, Nat.reduceMul, Nat.reduceBEq, Nat.reduceLeDiff, Nat.reduceLT]
 try simp only [XT, eY]
 try simp only [List.contains_nil, Bool.not_false, Bool.and_true, JE, List.length_append, List.length_cons, List.length_nil, Nat.zero_add, J1, ZP]
 all_goals rfl
theorem QmY (n : Nat) {R1} {l : List Int} (vn : Int) [H1 : EncL Qt R1 l] : CP T (n + 2) 264 [.imm 1 R1, .i .i64 vn] = (Qa6 l vn).map fun r => .own 1 (r.map Qt) := by
 obtain ⟨rfl⟩ := H1
 rw [Qd]
 simp -dsimp +contextual only [↓evA, eZ, Nat.reduceAdd, Nat.reduceMul, Nat.reduceBEq, Nat.reduceLeDiff, Nat.reduceLT, Tryz.func264, Tryz.f264, QBO, Qjr]
 try simp only [Qa6, eY]
 try simp only [List.contains_nil, Bool.not_false, Bool.and_true, JE, List.length_append, List.length_cons, List.length_nil, Nat.zero_add, J1, ZP]
 all_goals first | rfl | (simp +contextual only [evN] <;> rfl)
theorem QhB (n : Nat) {R1} {l : List Hand} (house : Int) {R2} {out : List Int} (i : Int) [H1 : EncL Qn R1 l] [H2 : EncL Qt R2 out] : LP T (n + 8) 231 3 (frm [(0, .imm 5 R1), (1, .i .i64 house), (5, .sl 0), (6, .i .i64 i)]) [some (Ent.lst 1 R2)] =
  (run (JC l house) (out, i)).map (fun (zr : (List Int)) => (XE.exit 0, frm [(5, .sl 0)], [some (Ent.lst 1 (zr.map Qt))])) := by
 rcases H1, H2 with ⟨⟨rfl⟩, ⟨rfl⟩⟩
 rw [Qr]
 simp -dsimp only [↓evA, evB, Qj, Tryz.func231, Tryz.f231, QCZ, TP, TZ, Nat.reduceAdd, Nat.reduceMul, Nat.reduceBEq, Nat.reduceLeDiff, Nat.reduceLT]
 refine run_map (fun (zs : (List Int) × Int) => (frm [(0, .imm 5 (l.map Qn)), (1, .i .i64 house), (5, .sl 0), (6, .i .i64 zs.2)], [some (Ent.lst 1 (zs.1.map Qt))])) (fun (zr : (List Int)) => (XE.exit 0, frm [(5, .sl 0)], [some (Ent.lst 1 (zr.map Qt))])) ?_ (out, i)
 rintro ⟨out, i⟩
 simp -dsimp +contextual only [↓evA, eZ, Nat.reduceAdd, Nat.reduceMul, Nat.reduceBEq, Nat.reduceLeDiff, Nat.reduceLT, Qc5, QeZ, QmY]
 try simp only [JC, eY]
 all_goals rfl
theorem Qlk (n : Nat) {R1} {l : List Hand} (house : Int) [H1 : EncL Qn R1 l] : CP T (n + 9) 231 [.imm 5 R1, .i .i64 house] = (Qbo l house).map fun r => .own 1 (r.map Qt) := by
 obtain ⟨rfl⟩ := H1
 rw [Qd]
 simp -dsimp +contextual only [↓evA, eZ, Nat.reduceAdd, Nat.reduceMul, Nat.reduceBEq, Nat.reduceLeDiff, Nat.reduceLT, Tryz.func231, Tryz.f231, QCZ, QhB]
 try simp only [Qbo, eY]
 all_goals first | rfl | (simp +contextual only [evN] <;> rfl)
theorem Qiu (n : Nat) {R1} {l : List Slot} (thing : Int) (i : Int) [H1 : EncL Qm R1 l] : LP T (n + 1) 112 2 (frm [(0, .imm 3 R1), (1, .i .i64 thing), (5, .i .i64 i)]) [] =
  VC (run (VJ l thing) i) (fun (zr : Int) => (XE.ret, frm [(4, .i .i64 zr)], [])) (fun (zr : Unit) => (XE.exit 0, frm [], [])) := by
 obtain ⟨rfl⟩ := H1
 rw [Qr]
 simp -dsimp only [↓evA, evB, Qj, Tryz.func112, Tryz.f112, QE0, TP, TZ, Nat.reduceAdd, Nat.reduceMul, Nat.reduceBEq, Nat.reduceLeDiff, Nat.reduceLT]
 refine run_map (fun (zs : Int) => (frm [(0, .imm 3 (l.map Qm)), (1, .i .i64 thing), (5, .i .i64 zs)], [])) (evO (fun (zr : Int) => (XE.ret, frm [(4, .i .i64 zr)], [])) (fun (zr : Unit) => (XE.exit 0, frm [], []))) ?_ i
 intro i
 simp -dsimp +contextual only [↓evA, eZ, Nat.reduceAdd, Nat.reduceMul, Nat.reduceBEq, Nat.reduceLeDiff, Nat.reduceLT]
 try simp only [VJ, eY]
 all_goals rfl
theorem Qf9 (n : Nat) {R1} {l : List Slot} (thing : Int) [H1 : EncL Qm R1 l] : CP T (n + 2) 112 [.imm 3 R1, .i .i64 thing] = (Zj l thing).map fun r => .i .i64 r := by
 obtain ⟨rfl⟩ := H1
 rw [Qd]
 simp -dsimp +contextual only [↓evA, eZ, Nat.reduceAdd, Nat.reduceMul, Nat.reduceBEq, Nat.reduceLeDiff, Nat.reduceLT, Tryz.func112, Tryz.f112, QE0, Qiu]
 try simp only [Zj, eY]
 all_goals rfl
theorem Qjk (n : Nat) {R1} {l : List Int} (vn : Int) (i : Int) [H1 : EncL Qt R1 l] : LP T (n + 1) 232 2 (frm [(0, .imm 1 R1), (1, .i .i64 vn), (5, .i .i64 i)]) [] =
  VC (run (ZV l vn) i) (fun (zr : Bool) => (XE.ret, frm [(4, .b zr)], [])) (fun (zr : Unit) => (XE.exit 0, frm [], [])) := by
 obtain ⟨rfl⟩ := H1
 rw [Qr]
 simp -dsimp only [↓evA, evB, Qj, Tryz.func232, Tryz.f232, QCt, TP, TZ, Nat.reduceAdd, Nat.reduceMul, Nat.reduceBEq, Nat.reduceLeDiff, Nat.reduceLT]
 refine run_map (fun (zs : Int) => (frm [(0, .imm 1 (l.map Qt)), (1, .i .i64 vn), (5, .i .i64 zs)], [])) (evO (fun (zr : Bool) => (XE.ret, frm [(4, .b zr)], [])) (fun (zr : Unit) => (XE.exit 0, frm [], []))) ?_ i
 intro i
 simp -dsimp +contextual only [↓evA, eZ, Nat.reduceAdd, Nat.reduceMul, Nat.reduceBEq, Nat.reduceLeDiff, Nat.reduceLT]
 try simp only [ZV, eY]
 all_goals rfl
theorem QnM (n : Nat) {R1} {l : List Int} (vn : Int) [H1 : EncL Qt R1 l] : CP T (n + 2) 232 [.imm 1 R1, .i .i64 vn] = (QcX l vn).map fun r => .b r := by
 obtain ⟨rfl⟩ := H1
 rw [Qd]
 simp -dsimp +contextual only [↓evA, eZ, Nat.reduceAdd, Nat.reduceMul, Nat.reduceBEq, Nat.reduceLeDiff, Nat.reduceLT, Tryz.func232, Tryz.f232, QCt, Qjk]
 try simp only [QcX, eY]
 all_goals rfl
theorem QfC (n : Nat) (t1xNo : Int) {R1} {t1xFinds : List Find} {R2} {t1xSecrets : List Secret} {R3} {t1xSlots : List Slot} {R4} {t1xClaims : List Claim} {R5} {t1xTrials : List Trial} {R6} {t1xChain : List Hand} {R7} {t1xBook : List Entry} (t1xNow : Int) {R8} {t3 : List Int} (t4 : Int) [H1 : EncL Qp R1 t1xFinds] [H2 : EncL Qe R2 t1xSecrets] [H3 : EncL Qm R3 t1xSlots] [H4 : EncL Qc R4 t1xClaims] [H5 : EncL Qk R5 t1xTrials] [H6 : EncL Qn R6 t1xChain] [H7 : EncL Qh R7 t1xBook] [H8 : EncL Qt R8 t3] : LP T (n + 3) 154 5 (frm [(1, .ptr 0 0 0), (3, .sl 1), (4, .i .i64 t4)]) [some (Ent.box [.i .i64 t1xNo, .imm 8 R1, .imm 3 R2, .imm 3 R3, .imm 5 R4, .imm 4 R5, .imm 5 R6, .imm 4 R7, .i .i64 t1xNow]), some (Ent.lst 1 R8)] =
  VC (run (Xw (⟨t1xNo, t1xFinds, t1xSecrets, t1xSlots, t1xClaims, t1xTrials, t1xChain, t1xBook, t1xNow⟩ : House) t3) t4) (fun (zr : Bool) => (XE.ret, frm [(2, .b zr)], [])) (fun (zr : Unit) => (XE.exit 0, frm [(1, .ptr 0 0 0), (3, .sl 1)], [some (Ent.box [.i .i64 t1xNo, .imm 8 (t1xFinds.map Qp), .imm 3 (t1xSecrets.map Qe), .imm 3 (t1xSlots.map Qm), .imm 5 (t1xClaims.map Qc), .imm 4 (t1xTrials.map Qk), .imm 5 (t1xChain.map Qn), .imm 4 (t1xBook.map Qh), .i .i64 t1xNow]), some (Ent.lst 1 (t3.map Qt))])) := by
 rcases H1, H2, H3, H4, H5, H6, H7, H8 with ⟨⟨rfl⟩, ⟨rfl⟩, ⟨rfl⟩, ⟨rfl⟩, ⟨rfl⟩, ⟨rfl⟩, ⟨rfl⟩, ⟨rfl⟩⟩
 rw [Qr]
 simp -dsimp only [↓evA, evB, Qj, Tryz.func154, Tryz.f154, QwS, TP, TZ, Nat.reduceAdd, Nat.reduceMul, Nat.reduceBEq, Nat.reduceLeDiff, Nat.reduceLT]
 refine run_map (fun (zs : Int) => (frm [(1, .ptr 0 0 0), (3, .sl 1), (4, .i .i64 zs)], [some (Ent.box [.i .i64 t1xNo, .imm 8 (t1xFinds.map Qp), .imm 3 (t1xSecrets.map Qe), .imm 3 (t1xSlots.map Qm), .imm 5 (t1xClaims.map Qc), .imm 4 (t1xTrials.map Qk), .imm 5 (t1xChain.map Qn), .imm 4 (t1xBook.map Qh), .i .i64 t1xNow]), some (Ent.lst 1 (t3.map Qt))])) (evO (fun (zr : Bool) => (XE.ret, frm [(2, .b zr)], [])) (fun (zr : Unit) => (XE.exit 0, frm [(1, .ptr 0 0 0), (3, .sl 1)], [some (Ent.box [.i .i64 t1xNo, .imm 8 (t1xFinds.map Qp), .imm 3 (t1xSecrets.map Qe), .imm 3 (t1xSlots.map Qm), .imm 5 (t1xClaims.map Qc), .imm 4 (t1xTrials.map Qk), .imm 5 (t1xChain.map Qn), .imm 4 (t1xBook.map Qh), .i .i64 t1xNow]), some (Ent.lst 1 (t3.map Qt))]))) ?_ t4
 intro t4
 simp -dsimp +contextual (maxSteps := 100000000) only [↓evA, eZ, Nat.reduceAdd, Nat.reduceMul, Nat.reduceBEq, Nat.reduceLeDiff, Nat.reduceLT, QaA]
 try simp only [Xw, eY]
 all_goals rfl
theorem QeQ (n : Nat) (t1xNo : Int) {R1} {t1xFinds : List Find} {R2} {t1xSecrets : List Secret} {R3} {t1xSlots : List Slot} {R4} {t1xClaims : List Claim} {R5} {t1xTrials : List Trial} {R6} {t1xChain : List Hand} {R7} {t1xBook : List Entry} (t1xNow : Int) {R8} {t3 : List Int} (t5 : Int) [H1 : EncL Qp R1 t1xFinds] [H2 : EncL Qe R2 t1xSecrets] [H3 : EncL Qm R3 t1xSlots] [H4 : EncL Qc R4 t1xClaims] [H5 : EncL Qk R5 t1xTrials] [H6 : EncL Qn R6 t1xChain] [H7 : EncL Qh R7 t1xBook] [H8 : EncL Qt R8 t3] : LP T (n + 3) 154 10 (frm [(1, .ptr 0 0 0), (3, .sl 1), (5, .i .i64 t5)]) [some (Ent.box [.i .i64 t1xNo, .imm 8 R1, .imm 3 R2, .imm 3 R3, .imm 5 R4, .imm 4 R5, .imm 5 R6, .imm 4 R7, .i .i64 t1xNow]), some (Ent.lst 1 R8)] =
  VC (run (VW (⟨t1xNo, t1xFinds, t1xSecrets, t1xSlots, t1xClaims, t1xTrials, t1xChain, t1xBook, t1xNow⟩ : House) t3) t5) (fun (zr : Bool) => (XE.ret, frm [(2, .b zr)], [])) (fun (zr : Unit) => (XE.exit 2, frm [(1, .ptr 0 0 0)], [some (Ent.box [.i .i64 t1xNo, .imm 8 (t1xFinds.map Qp), .imm 3 (t1xSecrets.map Qe), .imm 3 (t1xSlots.map Qm), .imm 5 (t1xClaims.map Qc), .imm 4 (t1xTrials.map Qk), .imm 5 (t1xChain.map Qn), .imm 4 (t1xBook.map Qh), .i .i64 t1xNow])])) := by
 rcases H1, H2, H3, H4, H5, H6, H7, H8 with ⟨⟨rfl⟩, ⟨rfl⟩, ⟨rfl⟩, ⟨rfl⟩, ⟨rfl⟩, ⟨rfl⟩, ⟨rfl⟩, ⟨rfl⟩⟩
 rw [Qr]
 simp -dsimp only [↓evA, evB, Qj, Tryz.func154, Tryz.f154, QwS, TP, TZ, Nat.reduceAdd, Nat.reduceMul, Nat.reduceBEq, Nat.reduceLeDiff, Nat.reduceLT]
 refine run_map (fun (zs : Int) => (frm [(1, .ptr 0 0 0), (3, .sl 1), (5, .i .i64 zs)], [some (Ent.box [.i .i64 t1xNo, .imm 8 (t1xFinds.map Qp), .imm 3 (t1xSecrets.map Qe), .imm 3 (t1xSlots.map Qm), .imm 5 (t1xClaims.map Qc), .imm 4 (t1xTrials.map Qk), .imm 5 (t1xChain.map Qn), .imm 4 (t1xBook.map Qh), .i .i64 t1xNow]), some (Ent.lst 1 (t3.map Qt))])) (evO (fun (zr : Bool) => (XE.ret, frm [(2, .b zr)], [])) (fun (zr : Unit) => (XE.exit 2, frm [(1, .ptr 0 0 0)], [some (Ent.box [.i .i64 t1xNo, .imm 8 (t1xFinds.map Qp), .imm 3 (t1xSecrets.map Qe), .imm 3 (t1xSlots.map Qm), .imm 5 (t1xClaims.map Qc), .imm 4 (t1xTrials.map Qk), .imm 5 (t1xChain.map Qn), .imm 4 (t1xBook.map Qh), .i .i64 t1xNow])]))) ?_ t5
 intro t5
 simp -dsimp +contextual (maxSteps := 100000000) only [↓evA, eZ, Nat.reduceAdd, Nat.reduceMul, Nat.reduceBEq, Nat.reduceLeDiff, Nat.reduceLT, Qf9, QnM]
 try simp only [VW, eY]
 all_goals rfl
theorem Qfk (n : Nat) (t1xNo : Int) {R1} {t1xFinds : List Find} {R2} {t1xSecrets : List Secret} {R3} {t1xSlots : List Slot} {R4} {t1xClaims : List Claim} {R5} {t1xTrials : List Trial} {R6} {t1xChain : List Hand} {R7} {t1xBook : List Entry} (t1xNow : Int) (t7 : Int) [H1 : EncL Qp R1 t1xFinds] [H2 : EncL Qe R2 t1xSecrets] [H3 : EncL Qm R3 t1xSlots] [H4 : EncL Qc R4 t1xClaims] [H5 : EncL Qk R5 t1xTrials] [H6 : EncL Qn R6 t1xChain] [H7 : EncL Qh R7 t1xBook] : LP T (n + 3) 154 16 (frm [(1, .ptr 0 0 0), (7, .i .i64 t7)]) [some (Ent.box [.i .i64 t1xNo, .imm 8 R1, .imm 3 R2, .imm 3 R3, .imm 5 R4, .imm 4 R5, .imm 5 R6, .imm 4 R7, .i .i64 t1xNow])] =
  VC (run (VU (⟨t1xNo, t1xFinds, t1xSecrets, t1xSlots, t1xClaims, t1xTrials, t1xChain, t1xBook, t1xNow⟩ : House)) t7) (fun (zr : Bool) => (XE.ret, frm [(2, .b zr)], [])) (fun (zr : Unit) => (XE.exit 4, frm [], [])) := by
 rcases H1, H2, H3, H4, H5, H6, H7 with ⟨⟨rfl⟩, ⟨rfl⟩, ⟨rfl⟩, ⟨rfl⟩, ⟨rfl⟩, ⟨rfl⟩, ⟨rfl⟩⟩
 rw [Qr]
 simp -dsimp only [↓evA, evB, Qj, Tryz.func154, Tryz.f154, QwS, TP, TZ, Nat.reduceAdd, Nat.reduceMul, Nat.reduceBEq, Nat.reduceLeDiff, Nat.reduceLT]
 refine run_map (fun (zs : Int) => (frm [(1, .ptr 0 0 0), (7, .i .i64 zs)], [some (Ent.box [.i .i64 t1xNo, .imm 8 (t1xFinds.map Qp), .imm 3 (t1xSecrets.map Qe), .imm 3 (t1xSlots.map Qm), .imm 5 (t1xClaims.map Qc), .imm 4 (t1xTrials.map Qk), .imm 5 (t1xChain.map Qn), .imm 4 (t1xBook.map Qh), .i .i64 t1xNow])])) (evO (fun (zr : Bool) => (XE.ret, frm [(2, .b zr)], [])) (fun (zr : Unit) => (XE.exit 4, frm [], []))) ?_ t7
 intro t7
 simp -dsimp +contextual (maxSteps := 100000000) only [↓evA, eZ, Nat.reduceAdd, Nat.reduceMul, Nat.reduceBEq, Nat.reduceLeDiff, Nat.reduceLT, QaA]
 try simp only [VU, eY]
 all_goals rfl
theorem Qh2 (n : Nat) (vhxNo : Int) {R1} {vhxFinds : List Find} {R2} {vhxSecrets : List Secret} {R3} {vhxSlots : List Slot} {R4} {vhxClaims : List Claim} {R5} {vhxTrials : List Trial} {R6} {vhxChain : List Hand} {R7} {vhxBook : List Entry} (vhxNow : Int) [H1 : EncL Qp R1 vhxFinds] [H2 : EncL Qe R2 vhxSecrets] [H3 : EncL Qm R3 vhxSlots] [H4 : EncL Qc R4 vhxClaims] [H5 : EncL Qk R5 vhxTrials] [H6 : EncL Qn R6 vhxChain] [H7 : EncL Qh R7 vhxBook] : CP T (n + 10) 154 [.agg [.i .i64 vhxNo, .imm 8 R1, .imm 3 R2, .imm 3 R3, .imm 5 R4, .imm 4 R5, .imm 5 R6, .imm 4 R7, .i .i64 vhxNow]] = (J7 (⟨vhxNo, vhxFinds, vhxSecrets, vhxSlots, vhxClaims, vhxTrials, vhxChain, vhxBook, vhxNow⟩ : House)).map fun r => .b r := by
 rcases H1, H2, H3, H4, H5, H6, H7 with ⟨⟨rfl⟩, ⟨rfl⟩, ⟨rfl⟩, ⟨rfl⟩, ⟨rfl⟩, ⟨rfl⟩, ⟨rfl⟩⟩
 rw [Qd]
 simp -dsimp +contextual (maxSteps := 100000000) only [↓evA, eZ, Nat.reduceAdd, Nat.reduceMul, Nat.reduceBEq, Nat.reduceLeDiff, Nat.reduceLT, Tryz.func154, Tryz.f154, QwS, Qlk, QfC, QeQ, Qfk]
 try simp only [J7, eY]
 all_goals rfl
theorem QeP (n : Nat) (xxClaim : Int) (xxAsked : Int) (xxRight : Int) (xxWrong : Int) : CP T (n + 2) 187 [.agg [.i .i64 xxClaim, .i .i64 xxAsked, .i .i64 xxRight, .i .i64 xxWrong]] = (Zx (⟨xxClaim, xxAsked, xxRight, xxWrong⟩ : Trial)).map fun r => .b r := by
 rw [Qd]
 simp -dsimp +contextual only [↓evA, eZ, Nat.reduceAdd, Nat.reduceMul, Nat.reduceBEq, Nat.reduceLeDiff, Nat.reduceLT, Tryz.func187, Tryz.f187, QMO, Vj]
 try simp only [Zx, eY]
 all_goals rfl
theorem QhM (n : Nat) {R1} {l : List Secret} (thing : Int) (i : Int) [H1 : EncL Qe R1 l] : LP T (n + 1) 184 2 (frm [(0, .imm 3 R1), (1, .i .i64 thing), (5, .i .i64 i)]) [] =
  VC (run (Jy l thing) i) (fun (zr : Int) => (XE.ret, frm [(4, .i .i64 zr)], [])) (fun (zr : Unit) => (XE.exit 0, frm [], [])) := by
 obtain ⟨rfl⟩ := H1
 rw [Qr]
 simp -dsimp only [↓evA, evB, Qj, Tryz.func184, Tryz.f184, QFn, TP, TZ, Nat.reduceAdd, Nat.reduceMul, Nat.reduceBEq, Nat.reduceLeDiff, Nat.reduceLT]
 refine run_map (fun (zs : Int) => (frm [(0, .imm 3 (l.map Qe)), (1, .i .i64 thing), (5, .i .i64 zs)], [])) (evO (fun (zr : Int) => (XE.ret, frm [(4, .i .i64 zr)], [])) (fun (zr : Unit) => (XE.exit 0, frm [], []))) ?_ i
 intro i
 simp -dsimp +contextual only [↓evA, eZ, Nat.reduceAdd, Nat.reduceMul, Nat.reduceBEq, Nat.reduceLeDiff, Nat.reduceLT]
 try simp only [Jy, eY]
 all_goals rfl
theorem Qlr (n : Nat) {R1} {l : List Secret} (thing : Int) [H1 : EncL Qe R1 l] : CP T (n + 2) 184 [.imm 3 R1, .i .i64 thing] = (QcO l thing).map fun r => .i .i64 r := by
 obtain ⟨rfl⟩ := H1
 rw [Qd]
 simp -dsimp +contextual only [↓evA, eZ, Nat.reduceAdd, Nat.reduceMul, Nat.reduceBEq, Nat.reduceLeDiff, Nat.reduceLT, Tryz.func184, Tryz.f184, QFn, QhM]
 try simp only [QcO, eY]
 all_goals rfl
theorem Qka (n : Nat) {R1} {l : List Secret} (thing : Int) [H1 : EncL Qe R1 l] : CP T (n + 3) 103 [.imm 3 R1, .i .i64 thing] = (QbS l thing).map fun r => .own 2 (r.map Q4) := by
 obtain ⟨rfl⟩ := H1
 rw [Qd]
 simp -dsimp +contextual only [↓evA, eZ, Nat.reduceAdd, Nat.reduceMul, Nat.reduceBEq, Nat.reduceLeDiff, Nat.reduceLT, Tryz.func103, Tryz.f103, QP4, Qlr]
 try simp only [QbS, eY]
 all_goals first | rfl | (simp +contextual only [evN] <;> rfl)
theorem Qqu (n : Nat) (a : Int) (b : Int) : CP T (n + 1) 209 [.i .i64 a, .i .i64 b] = (Qhd a b).map fun r => .i .i64 r := by
 rw [Qd]
 simp -dsimp +contextual only [↓evA, eZ, Nat.reduceAdd, Nat.reduceMul, Nat.reduceBEq, Nat.reduceLeDiff, Nat.reduceLT, Tryz.func209, Tryz.f209, QN7]
 try simp only [Qhd, eY]
 all_goals rfl
theorem Qly (n : Nat) {R1} {l : List Mark} [H1 : EncL Q4 R1 l] : CP T (n + 2) 189 [.imm 2 R1] = (Qby l).map fun r => .i .i64 r := by
 obtain ⟨rfl⟩ := H1
 rw [Qd]
 simp -dsimp +contextual only [↓evA, eZ, Nat.reduceAdd, Nat.reduceMul, Nat.reduceBEq, Nat.reduceLeDiff, Nat.reduceLT, Tryz.func189, Tryz.f189, QNw, Qqu]
 try simp only [Qby, eY]
 all_goals rfl
theorem QgO (n : Nat) {R1} {l : List Mark} (xxClaim : Int) (xxAsked : Int) (xxRight : Int) (xxWrong : Int) [H1 : EncL Q4 R1 l] : CP T (n + 4) 105 [.imm 2 R1, .agg [.i .i64 xxClaim, .i .i64 xxAsked, .i .i64 xxRight, .i .i64 xxWrong]] = (ZQ l (⟨xxClaim, xxAsked, xxRight, xxWrong⟩ : Trial)).map fun r => .i .i64 r := by
 obtain ⟨rfl⟩ := H1
 rw [Qd]
 simp -dsimp +contextual only [↓evA, eZ, Nat.reduceAdd, Nat.reduceMul, Nat.reduceBEq, Nat.reduceLeDiff, Nat.reduceLT, Tryz.func105, Tryz.f105, QQi, QeP, Qei, Qly]
 try simp only [ZQ, eY]
 all_goals rfl
theorem QfI (n : Nat) (t1xNo : Int) {R1} {t1xFinds : List Find} {R2} {t1xSecrets : List Secret} {R3} {t1xSlots : List Slot} {R4} {t1xClaims : List Claim} {R5} {t1xTrials : List Trial} {R6} {t1xChain : List Hand} {R7} {t1xBook : List Entry} (t1xNow : Int) (t3 : Int) [H1 : EncL Qp R1 t1xFinds] [H2 : EncL Qe R2 t1xSecrets] [H3 : EncL Qm R3 t1xSlots] [H4 : EncL Qc R4 t1xClaims] [H5 : EncL Qk R5 t1xTrials] [H6 : EncL Qn R6 t1xChain] [H7 : EncL Qh R7 t1xBook] : LP T (n + 5) 155 4 (frm [(1, .ptr 0 0 0), (3, .i .i64 t3)]) [some (Ent.box [.i .i64 t1xNo, .imm 8 R1, .imm 3 R2, .imm 3 R3, .imm 5 R4, .imm 4 R5, .imm 5 R6, .imm 4 R7, .i .i64 t1xNow])] =
  VC (run (XF (⟨t1xNo, t1xFinds, t1xSecrets, t1xSlots, t1xClaims, t1xTrials, t1xChain, t1xBook, t1xNow⟩ : House)) t3) (fun (zr : Bool) => (XE.ret, frm [(2, .b zr)], [])) (fun (zr : Unit) => (XE.exit 0, frm [], [])) := by
 rcases H1, H2, H3, H4, H5, H6, H7 with ⟨⟨rfl⟩, ⟨rfl⟩, ⟨rfl⟩, ⟨rfl⟩, ⟨rfl⟩, ⟨rfl⟩, ⟨rfl⟩⟩
 rw [Qr]
 simp -dsimp only [↓evA, evB, Qj, Tryz.func155, Tryz.f155, QGp, TP, TZ, Nat.reduceAdd, Nat.reduceMul, Nat.reduceBEq, Nat.reduceLeDiff, Nat.reduceLT]
 refine run_map (fun (zs : Int) => (frm [(1, .ptr 0 0 0), (3, .i .i64 zs)], [some (Ent.box [.i .i64 t1xNo, .imm 8 (t1xFinds.map Qp), .imm 3 (t1xSecrets.map Qe), .imm 3 (t1xSlots.map Qm), .imm 5 (t1xClaims.map Qc), .imm 4 (t1xTrials.map Qk), .imm 5 (t1xChain.map Qn), .imm 4 (t1xBook.map Qh), .i .i64 t1xNow])])) (evO (fun (zr : Bool) => (XE.ret, frm [(2, .b zr)], [])) (fun (zr : Unit) => (XE.exit 0, frm [], []))) ?_ t3
 intro t3
 simp -dsimp +contextual (maxSteps := 100000000) only [↓evA, eZ, Nat.reduceAdd, Nat.reduceMul, Nat.reduceBEq, Nat.reduceLeDiff, Nat.reduceLT, QaA, QeP, Qka, QgO]
 try simp only [XF, eY]
 all_goals rfl
theorem Qip (n : Nat) (vhxNo : Int) {R1} {vhxFinds : List Find} {R2} {vhxSecrets : List Secret} {R3} {vhxSlots : List Slot} {R4} {vhxClaims : List Claim} {R5} {vhxTrials : List Trial} {R6} {vhxChain : List Hand} {R7} {vhxBook : List Entry} (vhxNow : Int) [H1 : EncL Qp R1 vhxFinds] [H2 : EncL Qe R2 vhxSecrets] [H3 : EncL Qm R3 vhxSlots] [H4 : EncL Qc R4 vhxClaims] [H5 : EncL Qk R5 vhxTrials] [H6 : EncL Qn R6 vhxChain] [H7 : EncL Qh R7 vhxBook] : CP T (n + 6) 155 [.agg [.i .i64 vhxNo, .imm 8 R1, .imm 3 R2, .imm 3 R3, .imm 5 R4, .imm 4 R5, .imm 5 R6, .imm 4 R7, .i .i64 vhxNow]] = (Ze (⟨vhxNo, vhxFinds, vhxSecrets, vhxSlots, vhxClaims, vhxTrials, vhxChain, vhxBook, vhxNow⟩ : House)).map fun r => .b r := by
 rcases H1, H2, H3, H4, H5, H6, H7 with ⟨⟨rfl⟩, ⟨rfl⟩, ⟨rfl⟩, ⟨rfl⟩, ⟨rfl⟩, ⟨rfl⟩, ⟨rfl⟩⟩
 rw [Qd]
 simp -dsimp +contextual (maxSteps := 100000000) only [↓evA, eZ, Nat.reduceAdd, Nat.reduceMul, Nat.reduceBEq, Nat.reduceLeDiff, Nat.reduceLT, Tryz.func155, Tryz.f155, QGp, QfI]
 try simp only [Ze, eY]
 all_goals rfl
theorem Qe9 (n : Nat) (vhxNo : Int) {R1} {vhxFinds : List Find} {R2} {vhxSecrets : List Secret} {R3} {vhxSlots : List Slot} {R4} {vhxClaims : List Claim} {R5} {vhxTrials : List Trial} {R6} {vhxChain : List Hand} {R7} {vhxBook : List Entry} (vhxNow : Int) [H1 : EncL Qp R1 vhxFinds] [H2 : EncL Qe R2 vhxSecrets] [H3 : EncL Qm R3 vhxSlots] [H4 : EncL Qc R4 vhxClaims] [H5 : EncL Qk R5 vhxTrials] [H6 : EncL Qn R6 vhxChain] [H7 : EncL Qh R7 vhxBook] : CP T (n + 11) 60 [.agg [.i .i64 vhxNo, .imm 8 R1, .imm 3 R2, .imm 3 R3, .imm 5 R4, .imm 4 R5, .imm 5 R6, .imm 4 R7, .i .i64 vhxNow]] = (XS (⟨vhxNo, vhxFinds, vhxSecrets, vhxSlots, vhxClaims, vhxTrials, vhxChain, vhxBook, vhxNow⟩ : House)).map fun r => .b r := by
 rcases H1, H2, H3, H4, H5, H6, H7 with ⟨⟨rfl⟩, ⟨rfl⟩, ⟨rfl⟩, ⟨rfl⟩, ⟨rfl⟩, ⟨rfl⟩, ⟨rfl⟩⟩
 rw [Qd]
 simp -dsimp +contextual (maxSteps := 100000000) only [↓evA, eZ, Nat.reduceAdd, Nat.reduceMul, Nat.reduceBEq, Nat.reduceLeDiff, Nat.reduceLT, Tryz.func60, Tryz.f60, a60, Vj, Qi5, Qhx, Qer, Qh4, Qc5, Qdp, Qh2, Qip]
 try simp only [XS, eY]
 all_goals rfl
theorem QeD (n : Nat) {R1} {l : List Claim} (thing : Int) (k : Int) (i : Int) [H1 : EncL Qc R1 l] : LP T (n + 1) 116 3 (frm [(0, .imm 5 R1), (1, .i .i64 thing), (5, .i .i64 k), (6, .i .i64 i)]) [] =
  (run (QX l thing) (k, i)).map (fun (zr : Int) => (XE.exit 0, frm [(0, .imm 5 (l.map Qc)), (5, .i .i64 zr)], [])) := by
 obtain ⟨rfl⟩ := H1
 rw [Qr]
 simp -dsimp only [↓evA, evB, Qj, Tryz.func116, Tryz.f116, QHZ, TP, TZ, Nat.reduceAdd, Nat.reduceMul, Nat.reduceBEq, Nat.reduceLeDiff, Nat.reduceLT]
 refine run_map (fun (zs : Int × Int) => (frm [(0, .imm 5 (l.map Qc)), (1, .i .i64 thing), (5, .i .i64 zs.1), (6, .i .i64 zs.2)], [])) (fun (zr : Int) => (XE.exit 0, frm [(0, .imm 5 (l.map Qc)), (5, .i .i64 zr)], [])) ?_ (k, i)
 rintro ⟨k, i⟩
 simp -dsimp +contextual only [↓evA, eZ, Nat.reduceAdd, Nat.reduceMul, Nat.reduceBEq, Nat.reduceLeDiff, Nat.reduceLT]
 try simp only [QX, eY]
 all_goals rfl
theorem Qgo (n : Nat) {R1} {l : List Claim} (thing : Int) [H1 : EncL Qc R1 l] : CP T (n + 2) 116 [.imm 5 R1, .i .i64 thing] = (Zg l thing).map fun r => .i .i64 r := by
 obtain ⟨rfl⟩ := H1
 rw [Qd]
 simp -dsimp +contextual only [↓evA, eZ, Nat.reduceAdd, Nat.reduceMul, Nat.reduceBEq, Nat.reduceLeDiff, Nat.reduceLT, Tryz.func116, Tryz.f116, QHZ, QeD]
 try simp only [Zg, eY]
 all_goals rfl
theorem Qjt (n : Nat) (kind : Int) : CP T (n + 2) 270 [.i .i64 kind] = (Qcm kind).map fun r => .i .i64 r := by
 rw [Qd]
 simp -dsimp +contextual only [↓evA, eZ, Nat.reduceAdd, Nat.reduceMul, Nat.reduceBEq, Nat.reduceLeDiff, Nat.reduceLT, Tryz.func270, Tryz.f270, QLS, Vj]
 try simp only [Qcm, eY]
 all_goals rfl
theorem Qj4 (n : Nat) (fxThingxId : Int) (fxThingxKind : Int) (fxThingxColour : Int) (fxThingxSize : Int) (fxThingxWorth : Int) (fxPlace : Int) (fxAt : Int) (fxFinder : Int) : CP T (n + 4) 249 [.agg [.i .i64 fxThingxId, .i .i64 fxThingxKind, .i .i64 fxThingxColour, .i .i64 fxThingxSize, .i .i64 fxThingxWorth, .i .i64 fxPlace, .i .i64 fxAt, .i .i64 fxFinder]] = (QcN (⟨⟨fxThingxId, fxThingxKind, fxThingxColour, fxThingxSize, fxThingxWorth⟩, fxPlace, fxAt, fxFinder⟩ : Find)).map fun r => .i .i64 r := by
 rw [Qd]
 simp -dsimp +contextual only [↓evA, eZ, Nat.reduceAdd, Nat.reduceMul, Nat.reduceBEq, Nat.reduceLeDiff, Nat.reduceLT, Tryz.func249, Tryz.f249, QOw, QdC, Qjt]
 try simp only [QcN, eY]
 all_goals rfl
theorem QmZ (n : Nat) (fxThingxId : Int) (fxThingxKind : Int) (fxThingxColour : Int) (fxThingxSize : Int) (fxThingxWorth : Int) (fxPlace : Int) (fxAt : Int) (fxFinder : Int) (now : Int) : CP T (n + 5) 213 [.agg [.i .i64 fxThingxId, .i .i64 fxThingxKind, .i .i64 fxThingxColour, .i .i64 fxThingxSize, .i .i64 fxThingxWorth, .i .i64 fxPlace, .i .i64 fxAt, .i .i64 fxFinder], .i .i64 now] = (Qa9 (⟨⟨fxThingxId, fxThingxKind, fxThingxColour, fxThingxSize, fxThingxWorth⟩, fxPlace, fxAt, fxFinder⟩ : Find) now).map fun r => .b r := by
 rw [Qd]
 simp -dsimp +contextual only [↓evA, eZ, Nat.reduceAdd, Nat.reduceMul, Nat.reduceBEq, Nat.reduceLeDiff, Nat.reduceLT, Tryz.func213, Tryz.f213, QLU, QdC, Qj4]
 try simp only [Qa9, eY]
 all_goals rfl
theorem Qib (n : Nat) {R1} {l : List Claim} (now : Int) (fxThingxId : Int) (fxThingxKind : Int) (fxThingxColour : Int) (fxThingxSize : Int) (fxThingxWorth : Int) (fxPlace : Int) (fxAt : Int) (fxFinder : Int) (i : Int) [H1 : EncL Qc R1 l] : LP T (n + 1) 127 4 (frm [(1, .imm 5 R1), (2, .i .i64 now), (3, .ptr 0 0 0), (7, .i .i64 i)]) [some (Ent.box [.i .i64 fxThingxId, .i .i64 fxThingxKind, .i .i64 fxThingxColour, .i .i64 fxThingxSize, .i .i64 fxThingxWorth, .i .i64 fxPlace, .i .i64 fxAt, .i .i64 fxFinder])] =
  VC (run (Zb l now (⟨⟨fxThingxId, fxThingxKind, fxThingxColour, fxThingxSize, fxThingxWorth⟩, fxPlace, fxAt, fxFinder⟩ : Find)) i) (fun (zr : Int) => (XE.ret, frm [(6, .i .i64 zr)], [])) (fun (zr : Unit) => (XE.exit 0, frm [(2, .i .i64 now), (3, .ptr 0 0 0)], [some (Ent.box [.i .i64 fxThingxId, .i .i64 fxThingxKind, .i .i64 fxThingxColour, .i .i64 fxThingxSize, .i .i64 fxThingxWorth, .i .i64 fxPlace, .i .i64 fxAt, .i .i64 fxFinder])])) := by
 obtain ⟨rfl⟩ := H1
 rw [Qr]
 simp -dsimp only [↓evA, evB, Qj, Tryz.func127, Tryz.f127, QIM, TP, TZ, Nat.reduceAdd, Nat.reduceMul, Nat.reduceBEq, Nat.reduceLeDiff, Nat.reduceLT]
 refine run_map (fun (zs : Int) => (frm [(1, .imm 5 (l.map Qc)), (2, .i .i64 now), (3, .ptr 0 0 0), (7, .i .i64 zs)], [some (Ent.box [.i .i64 fxThingxId, .i .i64 fxThingxKind, .i .i64 fxThingxColour, .i .i64 fxThingxSize, .i .i64 fxThingxWorth, .i .i64 fxPlace, .i .i64 fxAt, .i .i64 fxFinder])])) (evO (fun (zr : Int) => (XE.ret, frm [(6, .i .i64 zr)], [])) (fun (zr : Unit) => (XE.exit 0, frm [(2, .i .i64 now), (3, .ptr 0 0 0)], [some (Ent.box [.i .i64 fxThingxId, .i .i64 fxThingxKind, .i .i64 fxThingxColour, .i .i64 fxThingxSize, .i .i64 fxThingxWorth, .i .i64 fxPlace, .i .i64 fxAt, .i .i64 fxFinder])]))) ?_ i
 intro i
 simp -dsimp +contextual only [↓evA, eZ, Nat.reduceAdd, Nat.reduceMul, Nat.reduceBEq, Nat.reduceLeDiff, Nat.reduceLT]
 try simp only [Zb, eY]
 all_goals rfl
theorem Ql7 (n : Nat) (fxThingxId : Int) (fxThingxKind : Int) (fxThingxColour : Int) (fxThingxSize : Int) (fxThingxWorth : Int) (fxPlace : Int) (fxAt : Int) (fxFinder : Int) {R1} {l : List Claim} (now : Int) [H1 : EncL Qc R1 l] : CP T (n + 6) 127 [.agg [.i .i64 fxThingxId, .i .i64 fxThingxKind, .i .i64 fxThingxColour, .i .i64 fxThingxSize, .i .i64 fxThingxWorth, .i .i64 fxPlace, .i .i64 fxAt, .i .i64 fxFinder], .imm 5 R1, .i .i64 now] = (Qcr (⟨⟨fxThingxId, fxThingxKind, fxThingxColour, fxThingxSize, fxThingxWorth⟩, fxPlace, fxAt, fxFinder⟩ : Find) l now).map fun r => .i .i64 r := by
 obtain ⟨rfl⟩ := H1
 rw [Qd]
 simp -dsimp +contextual only [↓evA, eZ, Nat.reduceAdd, Nat.reduceMul, Nat.reduceBEq, Nat.reduceLeDiff, Nat.reduceLT, Tryz.func127, Tryz.f127, QIM, Qgo, QmZ, Qib]
 try simp only [Qcr, eY]
 all_goals rfl
theorem Qg3 (n : Nat) {R1} {l : List Secret} {R2} {out : List Secret} (i : Int) [H1 : EncL Qe R1 l] [H2 : EncL QS R2 out] : LP T (n + 1) 147 3 (frm [(0, .imm 3 R1), (3, .sl 0), (4, .i .i64 i)]) [some (Ent.lst 3 R2)] =
  (run (XL l) (out, i)).map (fun (zr : (List Secret)) => (XE.exit 0, frm [(3, .sl 0)], [some (Ent.lst 3 (zr.map QS))])) := by
 rcases H1, H2 with ⟨⟨rfl⟩, ⟨rfl⟩⟩
 rw [Qr]
 simp -dsimp only [↓evA, evB, Qj, Tryz.func147, Tryz.f147, QEC, TP, TZ, Nat.reduceAdd, Nat.reduceMul, Nat.reduceBEq, Nat.reduceLeDiff, Nat.reduceLT]
 refine run_map (fun (zs : (List Secret) × Int) => (frm [(0, .imm 3 (l.map Qe)), (3, .sl 0), (4, .i .i64 zs.2)], [some (Ent.lst 3 (zs.1.map QS))])) (fun (zr : (List Secret)) => (XE.exit 0, frm [(3, .sl 0)], [some (Ent.lst 3 (zr.map QS))])) ?_ (out, i)
 rintro ⟨out, i⟩
 simp -dsimp +contextual only [↓evA, eZ, Nat.reduceAdd, Nat.reduceMul, Nat.reduceBEq, Nat.reduceLeDiff, Nat.reduceLT]
 try simp only [XL, eY]
 all_goals rfl
theorem QlP (n : Nat) {R1} {l : List Secret} [H1 : EncL Qe R1 l] : CP T (n + 2) 147 [.imm 3 R1] = (QbV l).map fun r => .own 3 (r.map QS) := by
 obtain ⟨rfl⟩ := H1
 rw [Qd]
 simp -dsimp +contextual only [↓evA, eZ, Nat.reduceAdd, Nat.reduceMul, Nat.reduceBEq, Nat.reduceLeDiff, Nat.reduceLT, Tryz.func147, Tryz.f147, QEC, Qg3]
 try simp only [QbV, eY]
 all_goals first | rfl | (simp +contextual only [evN] <;> rfl)
theorem QcW (n : Nat) (vhxNo : Int) {R1} {vhxFinds : List Find} {R2} {vhxSecrets : List Secret} {R3} {vhxSlots : List Slot} {R4} {vhxClaims : List Claim} {R5} {vhxTrials : List Trial} {R6} {vhxChain : List Hand} {R7} {vhxBook : List Entry} (vhxNow : Int) [H1 : EncL Qp R1 vhxFinds] [H2 : EncL Qe R2 vhxSecrets] [H3 : EncL Qm R3 vhxSlots] [H4 : EncL Qc R4 vhxClaims] [H5 : EncL Qk R5 vhxTrials] [H6 : EncL Qn R6 vhxChain] [H7 : EncL Qh R7 vhxBook] : CP T (n + 3) 59 [.agg [.i .i64 vhxNo, .imm 8 R1, .imm 3 R2, .imm 3 R3, .imm 5 R4, .imm 4 R5, .imm 5 R6, .imm 4 R7, .i .i64 vhxNow]] = (Zn (⟨vhxNo, vhxFinds, vhxSecrets, vhxSlots, vhxClaims, vhxTrials, vhxChain, vhxBook, vhxNow⟩ : House)).map fun r => .agg (Z2 r) := by
 rcases H1, H2, H3, H4, H5, H6, H7 with ⟨⟨rfl⟩, ⟨rfl⟩, ⟨rfl⟩, ⟨rfl⟩, ⟨rfl⟩, ⟨rfl⟩, ⟨rfl⟩⟩
 rw [Qd]
 simp -dsimp +contextual (maxSteps := 100000000) only [↓evA, eZ, Nat.reduceAdd, Nat.reduceMul, Nat.reduceBEq, Nat.reduceLeDiff, Nat.reduceLT, Tryz.func59, Tryz.f59, a59, QlP]
 try simp only [Zn, eY]
 all_goals rfl
theorem Qha (n : Nat) {R1} {out : List Slot} (s : Int) (i : Int) [H1 : EncL Qm R1 out] : LP T (n + 1) 206 6 (frm [(6, .sl 0), (7, .i .i64 s), (8, .i .i64 i)]) [some (Ent.lst 3 R1)] =
  (run (Vw s) (out, i)).map (fun (zr : (List Slot)) => (XE.exit 0, frm [(6, .sl 0)], [some (Ent.lst 3 (zr.map Qm))])) := by
 obtain ⟨rfl⟩ := H1
 rw [Qr]
 simp -dsimp only [↓evA, evB, Qj, Tryz.func206, Tryz.f206, QGs, TP, TZ, Nat.reduceAdd, Nat.reduceMul, Nat.reduceBEq, Nat.reduceLeDiff, Nat.reduceLT]
 refine run_map (fun (zs : (List Slot) × Int) => (frm [(6, .sl 0), (7, .i .i64 s), (8, .i .i64 zs.2)], [some (Ent.lst 3 (zs.1.map Qm))])) (fun (zr : (List Slot)) => (XE.exit 0, frm [(6, .sl 0)], [some (Ent.lst 3 (zr.map Qm))])) ?_ (out, i)
 rintro ⟨out, i⟩
 simp -dsimp +contextual only [↓evA, eZ, Nat.reduceAdd, Nat.reduceMul, Nat.reduceBEq, Nat.reduceLeDiff, Nat.reduceLT]
 try simp only [Vw, eY]
 all_goals rfl
theorem QkC (n : Nat) {R1} {l : List Slot} (thing : Int) [H1 : EncL Qm R1 l] : CP T (n + 4) 206 [.imm 3 R1, .i .i64 thing] = (Qbt l thing).map fun r => .tup [.own 3 (r.1.map Qm), .b r.2] := by
 obtain ⟨rfl⟩ := H1
 rw [Qd]
 simp -dsimp +contextual only [↓evA, eZ, Nat.reduceAdd, Nat.reduceMul, Nat.reduceBEq, Nat.reduceLeDiff, Nat.reduceLT, Tryz.func206, Tryz.f206, QGs, Qf9, Qer, Qha]
 try simp only [Qbt, eY]
 all_goals first | rfl | (simp +contextual only [evN] <;> rfl)
theorem QkL (n : Nat) {R1} {l : List Hand} (xxThing : Int) (xxHolder : Int) (xxWho : Int) (xxAt : Int) (xxSeal : Int) [H1 : EncL Qn R1 l] : CP T (n + 8) 132 [.imm 5 R1, .agg [.i .i64 xxThing, .i .i64 xxHolder, .i .i64 xxWho, .i .i64 xxAt, .i .i64 xxSeal]] = (Qbp l (⟨xxThing, xxHolder, xxWho, xxAt, xxSeal⟩ : Hand)).map fun r => .tup [.own 5 (r.1.map Qn), .b r.2] := by
 obtain ⟨rfl⟩ := H1
 rw [Qd]
 simp -dsimp +contextual only [↓evA, eZ, Nat.reduceAdd, Nat.reduceMul, Nat.reduceBEq, Nat.reduceLeDiff, Nat.reduceLT, Tryz.func132, Tryz.f132, QOV, Qeg, Qc5]
 try simp only [Qbp, eY]
 try simp only [List.contains_nil, Bool.not_false, Bool.and_true, JE, List.length_append, List.length_cons, List.length_nil, Nat.zero_add, J1, ZP]
 all_goals first | rfl | (simp +contextual only [evN] <;> rfl)
theorem Ql4 (n : Nat) (vhxNo : Int) {R1} {vhxFinds : List Find} {R2} {vhxSecrets : List Secret} {R3} {vhxSlots : List Slot} {R4} {vhxClaims : List Claim} {R5} {vhxTrials : List Trial} {R6} {vhxChain : List Hand} {R7} {vhxBook : List Entry} (vhxNow : Int) (thing : Int) (holder : Int) (who : Int) [H1 : EncL Qp R1 vhxFinds] [H2 : EncL Qe R2 vhxSecrets] [H3 : EncL Qm R3 vhxSlots] [H4 : EncL Qc R4 vhxClaims] [H5 : EncL Qk R5 vhxTrials] [H6 : EncL Qn R6 vhxChain] [H7 : EncL Qh R7 vhxBook] : CP T (n + 9) 118 [.agg [.i .i64 vhxNo, .imm 8 R1, .imm 3 R2, .imm 3 R3, .imm 5 R4, .imm 4 R5, .imm 5 R6, .imm 4 R7, .i .i64 vhxNow], .i .i64 thing, .i .i64 holder, .i .i64 who] = (QcA (⟨vhxNo, vhxFinds, vhxSecrets, vhxSlots, vhxClaims, vhxTrials, vhxChain, vhxBook, vhxNow⟩ : House) thing holder who).map fun r => .tup [.agg (Z2 r.1), .b r.2] := by
 rcases H1, H2, H3, H4, H5, H6, H7 with ⟨⟨rfl⟩, ⟨rfl⟩, ⟨rfl⟩, ⟨rfl⟩, ⟨rfl⟩, ⟨rfl⟩, ⟨rfl⟩⟩
 rw [Qd]
 simp -dsimp +contextual (maxSteps := 100000000) only [↓evA, eZ, Nat.reduceAdd, Nat.reduceMul, Nat.reduceBEq, Nat.reduceLeDiff, Nat.reduceLT, Tryz.func118, Tryz.f118, QMY, QcW, QkC, QkL]
 try simp only [QcA, eY]
 all_goals rfl
theorem Qjc (n : Nat) {R1} {l : List Entry} (xxFrom : Int) (xxTo : Int) (xxCents : Int) (xxAt : Int) [H1 : EncL Qh R1 l] : CP T (n + 4) 207 [.imm 4 R1, .agg [.i .i64 xxFrom, .i .i64 xxTo, .i .i64 xxCents, .i .i64 xxAt]] = (ZZ l (⟨xxFrom, xxTo, xxCents, xxAt⟩ : Entry)).map fun r => .tup [.own 4 (r.1.map Qh), .b r.2] := by
 obtain ⟨rfl⟩ := H1
 rw [Qd]
 simp -dsimp +contextual only [↓evA, eZ, Nat.reduceAdd, Nat.reduceMul, Nat.reduceBEq, Nat.reduceLeDiff, Nat.reduceLT, Tryz.func207, Tryz.f207, QLD, Qdp]
 try simp only [ZZ, eY]
 try simp only [List.contains_nil, Bool.not_false, Bool.and_true, JE, List.length_append, List.length_cons, List.length_nil, Nat.zero_add, J1, ZP]
 all_goals first | rfl | (simp +contextual only [evN] <;> rfl)
theorem QlS (n : Nat) (vhxNo : Int) {R1} {vhxFinds : List Find} {R2} {vhxSecrets : List Secret} {R3} {vhxSlots : List Slot} {R4} {vhxClaims : List Claim} {R5} {vhxTrials : List Trial} {R6} {vhxChain : List Hand} {R7} {vhxBook : List Entry} (vhxNow : Int) (vfrom : Int) (to : Int) (cents : Int) [H1 : EncL Qp R1 vhxFinds] [H2 : EncL QS R2 vhxSecrets] [H3 : EncL Qm R3 vhxSlots] [H4 : EncL Qc R4 vhxClaims] [H5 : EncL Qk R5 vhxTrials] [H6 : EncL Qn R6 vhxChain] [H7 : EncL Qh R7 vhxBook] : CM T (n + 5) 120 [some (Ent.lst 8 R1), some (Ent.lst 3 R2), some (Ent.lst 3 R3), some (Ent.lst 5 R4), some (Ent.lst 4 R5), some (Ent.lst 5 R6), some (Ent.lst 4 R7)] [.agg [.i .i64 vhxNo, .sl 0, .sl 1, .sl 2, .sl 3, .sl 4, .sl 5, .sl 6, .i .i64 vhxNow], .i .i64 vfrom, .i .i64 to, .i .i64 cents] = (Qbe (⟨vhxNo, vhxFinds, vhxSecrets, vhxSlots, vhxClaims, vhxTrials, vhxChain, vhxBook, vhxNow⟩ : House) vfrom to cents).map fun r => .tup [.agg (Z2 r.1), .b r.2] := by
 rcases H1, H2, H3, H4, H5, H6, H7 with ⟨⟨rfl⟩, ⟨rfl⟩, ⟨rfl⟩, ⟨rfl⟩, ⟨rfl⟩, ⟨rfl⟩, ⟨rfl⟩⟩
 rw [Qrt]
 simp -dsimp +contextual (maxSteps := 100000000) only [↓evA, eZ, Nat.reduceAdd, Nat.reduceMul, Nat.reduceBEq, Nat.reduceLeDiff, Nat.reduceLT, Tryz.func120, Tryz.f120, QPN, Qjc]
 try simp only [Qbe, eY]
 all_goals rfl
theorem QeK (n : Nat) (cents : Int) {R1} {t1 : List Int} {R2} {t5 : List Int} (t6 : Int) (t7 : Int) [H1 : EncL Qt R1 t1] [H2 : EncL Qt R2 t5] : LP T (n + 2) 224 4 (frm [(0, .i .i64 cents), (1, .imm 1 R1), (5, .sl 0), (6, .i .i64 t6), (7, .i .i64 t7)]) [some (Ent.lst 1 R2)] =
  VC (run (VT cents t1 t5) (t6, t7)) (fun (zr : (List Int)) => (XE.ret, frm [(4, .sl 0)], [some (Ent.lst 1 (zr.map Qt))])) (fun (zr : Int) => (XE.exit 0, frm [(0, .i .i64 cents), (1, .imm 1 (t1.map Qt)), (5, .sl 0), (6, .i .i64 zr)], [some (Ent.lst 1 (t5.map Qt))])) := by
 rcases H1, H2 with ⟨⟨rfl⟩, ⟨rfl⟩⟩
 rw [Qr]
 simp -dsimp only [↓evA, evB, Qj, Tryz.func224, Tryz.f224, QxD, TP, TZ, Nat.reduceAdd, Nat.reduceMul, Nat.reduceBEq, Nat.reduceLeDiff, Nat.reduceLT]
 refine run_map (fun (zs : Int × Int) => (frm [(0, .i .i64 cents), (1, .imm 1 (t1.map Qt)), (5, .sl 0), (6, .i .i64 zs.1), (7, .i .i64 zs.2)], [some (Ent.lst 1 (t5.map Qt))])) (evO (fun (zr : (List Int)) => (XE.ret, frm [(4, .sl 0)], [some (Ent.lst 1 (zr.map Qt))])) (fun (zr : Int) => (XE.exit 0, frm [(0, .i .i64 cents), (1, .imm 1 (t1.map Qt)), (5, .sl 0), (6, .i .i64 zr)], [some (Ent.lst 1 (t5.map Qt))]))) ?_ (t6, t7)
 rintro ⟨t6, t7⟩
 simp -dsimp +contextual only [↓evA, eZ, Nat.reduceAdd, Nat.reduceMul, Nat.reduceBEq, Nat.reduceLeDiff, Nat.reduceLT, Vj]
 try simp only [VT, eY]
 all_goals rfl
theorem Qex (n : Nat) (cents : Int) {R1} {t1 : List Int} {R2} {t5 : List Int} (t6 : Int) (t8 : Int) (t9 : Int) [H1 : EncL Qt R1 t1] [H2 : EncL Qt R2 t5] : LP T (n + 1) 224 13 (frm [(0, .i .i64 cents), (1, .imm 1 R1), (5, .sl 0), (6, .i .i64 t6), (8, .i .i64 t8), (9, .i .i64 t9)]) [some (Ent.lst 1 R2)] =
  (run (Vt cents t1 t6) (t5, t8, t9)).map (fun (zr : (List Int) × Int) => (XE.exit 2, frm [(5, .sl 0), (8, .i .i64 zr.2)], [some (Ent.lst 1 (zr.1.map Qt))])) := by
 rcases H1, H2 with ⟨⟨rfl⟩, ⟨rfl⟩⟩
 rw [Qr]
 simp -dsimp only [↓evA, evB, Qj, Tryz.func224, Tryz.f224, QxD, TP, TZ, Nat.reduceAdd, Nat.reduceMul, Nat.reduceBEq, Nat.reduceLeDiff, Nat.reduceLT]
 refine run_map (fun (zs : (List Int) × Int × Int) => (frm [(0, .i .i64 cents), (1, .imm 1 (t1.map Qt)), (5, .sl 0), (6, .i .i64 t6), (8, .i .i64 zs.2.1), (9, .i .i64 zs.2.2)], [some (Ent.lst 1 (zs.1.map Qt))])) (fun (zr : (List Int) × Int) => (XE.exit 2, frm [(5, .sl 0), (8, .i .i64 zr.2)], [some (Ent.lst 1 (zr.1.map Qt))])) ?_ (t5, t8, t9)
 rintro ⟨t5, t8, t9⟩
 simp -dsimp +contextual only [↓evA, eZ, Nat.reduceAdd, Nat.reduceMul, Nat.reduceBEq, Nat.reduceLeDiff, Nat.reduceLT]
 try simp only [Vt, eY]
 all_goals rfl
theorem QeB (n : Nat) {R1} {t5 : List Int} (t8 : Int) (t10 : Int) [H1 : EncL Qt R1 t5] : LP T (n + 1) 224 18 (frm [(5, .sl 0), (8, .i .i64 t8), (10, .i .i64 t10)]) [some (Ent.lst 1 R1)] =
  (run (VP t8) (t5, t10)).map (fun (zr : (List Int)) => (XE.exit 4, frm [(5, .sl 0)], [some (Ent.lst 1 (zr.map Qt))])) := by
 obtain ⟨rfl⟩ := H1
 rw [Qr]
 simp -dsimp only [↓evA, evB, Qj, Tryz.func224, Tryz.f224, QxD, TP, TZ, Nat.reduceAdd, Nat.reduceMul, Nat.reduceBEq, Nat.reduceLeDiff, Nat.reduceLT]
 refine run_map (fun (zs : (List Int) × Int) => (frm [(5, .sl 0), (8, .i .i64 t8), (10, .i .i64 zs.2)], [some (Ent.lst 1 (zs.1.map Qt))])) (fun (zr : (List Int)) => (XE.exit 4, frm [(5, .sl 0)], [some (Ent.lst 1 (zr.map Qt))])) ?_ (t5, t10)
 rintro ⟨t5, t10⟩
 simp -dsimp +contextual only [↓evA, eZ, Nat.reduceAdd, Nat.reduceMul, Nat.reduceBEq, Nat.reduceLeDiff, Nat.reduceLT]
 try simp only [VP, eY]
 all_goals rfl
theorem Qhp (n : Nat) (cents : Int) {R1} {a : List Int} [H1 : EncL Qt R1 a] : CP T (n + 3) 224 [.i .i64 cents, .imm 1 R1] = (Zy cents a).map fun r => .own 1 (r.map Qt) := by
 obtain ⟨rfl⟩ := H1
 rw [Qd]
 simp -dsimp +contextual only [↓evA, eZ, Nat.reduceAdd, Nat.reduceMul, Nat.reduceBEq, Nat.reduceLeDiff, Nat.reduceLT, Tryz.func224, Tryz.f224, QxD, Vj, QeK, Qex, QeB]
 try simp only [Zy, eY]
 all_goals first | rfl | (simp +contextual only [evN] <;> rfl)
theorem Qj8 (n : Nat) (price : Int) (finder : Int) : CP T (n + 4) 141 [.i .i64 price, .i .i64 finder] = (QbD price finder).map fun r => .own 2 (r.map Qgv) := by
 rw [Qd]
 simp -dsimp +contextual only [↓evA, eZ, Nat.reduceAdd, Nat.reduceMul, Nat.reduceBEq, Nat.reduceLeDiff, Nat.reduceLT, Tryz.func141, Tryz.f141, QMh, Vj, Qhp]
 try simp only [QbD, eY]
 all_goals first | rfl | (simp +contextual only [evN] <;> rfl)
theorem Qlc (n : Nat) (vhxNo : Int) {R1} {vhxFinds : List Find} {R2} {vhxSecrets : List Secret} {R3} {vhxSlots : List Slot} {R4} {vhxClaims : List Claim} {R5} {vhxTrials : List Trial} {R6} {vhxChain : List Hand} {R7} {vhxBook : List Entry} (vhxNow : Int) (outxNo : Int) {R8} {outxFinds : List Find} {R9} {outxSecrets : List Secret} {R10} {outxSlots : List Slot} {R11} {outxClaims : List Claim} {R12} {outxTrials : List Trial} {R13} {outxChain : List Hand} {R14} {outxBook : List Entry} (outxNow : Int) (ok : Bool) [H1 : EncL Qp R1 vhxFinds] [H2 : EncL Qe R2 vhxSecrets] [H3 : EncL Qm R3 vhxSlots] [H4 : EncL Qc R4 vhxClaims] [H5 : EncL Qk R5 vhxTrials] [H6 : EncL Qn R6 vhxChain] [H7 : EncL Qh R7 vhxBook] [H8 : EncL Qp R8 outxFinds] [H9 : EncL QS R9 outxSecrets] [H10 : EncL Qm R10 outxSlots] [H11 : EncL Qc R11 outxClaims] [H12 : EncL Qk R12 outxTrials] [H13 : EncL Qn R13 outxChain] [H14 : EncL Qh R14 outxBook] : CM T (n + 12) 92 [some (Ent.lst 8 R8), some (Ent.lst 3 R9), some (Ent.lst 3 R10), some (Ent.lst 5 R11), some (Ent.lst 4 R12), some (Ent.lst 5 R13), some (Ent.lst 4 R14)] [.agg [.i .i64 vhxNo, .imm 8 R1, .imm 3 R2, .imm 3 R3, .imm 5 R4, .imm 4 R5, .imm 5 R6, .imm 4 R7, .i .i64 vhxNow], .agg [.i .i64 outxNo, .sl 0, .sl 1, .sl 2, .sl 3, .sl 4, .sl 5, .sl 6, .i .i64 outxNow], .b ok] = (Xc (⟨vhxNo, vhxFinds, vhxSecrets, vhxSlots, vhxClaims, vhxTrials, vhxChain, vhxBook, vhxNow⟩ : House) (⟨outxNo, outxFinds, outxSecrets, outxSlots, outxClaims, outxTrials, outxChain, outxBook, outxNow⟩ : House) ok).map fun r => .tup [.agg (Z2 r.1), .b r.2] := by
 rcases H1, H2, H3, H4, H5, H6, H7, H8, H9, H10, H11, H12, H13, H14 with ⟨⟨rfl⟩, ⟨rfl⟩, ⟨rfl⟩, ⟨rfl⟩, ⟨rfl⟩, ⟨rfl⟩, ⟨rfl⟩, ⟨rfl⟩, ⟨rfl⟩, ⟨rfl⟩, ⟨rfl⟩, ⟨rfl⟩, ⟨rfl⟩, ⟨rfl⟩⟩
 rw [Qrt]
 simp -dsimp +contextual (maxSteps := 100000000) only [↓evA, eZ, Nat.reduceAdd, Nat.reduceMul, Nat.reduceBEq, Nat.reduceLeDiff, Nat.reduceLT, Tryz.func92, Tryz.f92, a92, Qe9, QcW]
 try simp only [Xc, eY]
 all_goals rfl
theorem Qjj (n : Nat) (vhxNo : Int) {R1} {vhxFinds : List Find} {R2} {vhxSecrets : List Secret} {R3} {vhxSlots : List Slot} {R4} {vhxClaims : List Claim} {R5} {vhxTrials : List Trial} {R6} {vhxChain : List Hand} {R7} {vhxBook : List Entry} (vhxNow : Int) (a : Int) {R8} {a2 : List Bid} [H1 : EncL Qp R1 vhxFinds] [H2 : EncL Qe R2 vhxSecrets] [H3 : EncL Qm R3 vhxSlots] [H4 : EncL Qc R4 vhxClaims] [H5 : EncL Qk R5 vhxTrials] [H6 : EncL Qn R6 vhxChain] [H7 : EncL Qh R7 vhxBook] [H8 : EncL QY R8 a2] : CP T (n + 13) 42 [.agg [.i .i64 vhxNo, .imm 8 R1, .imm 3 R2, .imm 3 R3, .imm 5 R4, .imm 4 R5, .imm 5 R6, .imm 4 R7, .i .i64 vhxNow], .i .i64 a, .imm 3 R8] = (QaL (⟨vhxNo, vhxFinds, vhxSecrets, vhxSlots, vhxClaims, vhxTrials, vhxChain, vhxBook, vhxNow⟩ : House) a a2).map fun r => .tup [.agg (Z2 r.1), .b r.2] := by
 rcases H1, H2, H3, H4, H5, H6, H7, H8 with ⟨⟨rfl⟩, ⟨rfl⟩, ⟨rfl⟩, ⟨rfl⟩, ⟨rfl⟩, ⟨rfl⟩, ⟨rfl⟩, ⟨rfl⟩⟩
 rw [Qd]
 simp -dsimp +contextual (maxSteps := 100000000) only [↓evA, eZ, Nat.reduceAdd, Nat.reduceMul, Nat.reduceBEq, Nat.reduceLeDiff, Nat.reduceLT, Tryz.func42, Tryz.f42, a42, srt, QaA, Qma, Qe9, Ql7, QcW, Ql4, QlS, Qj8, Qlc]
 try simp only [QaL, eY]
 try simp only [List.contains_nil, Bool.not_false, Bool.and_true, JE, List.length_append, List.length_cons, List.length_nil, Nat.zero_add, J1, ZP]
 all_goals rfl
theorem Qgm (n : Nat) (fxThingxId : Int) (fxThingxKind : Int) (fxThingxColour : Int) (fxThingxSize : Int) (fxThingxWorth : Int) (fxPlace : Int) (fxAt : Int) (fxFinder : Int) (c : Int) : CP T (n + 1) 248 [.agg [.i .i64 fxThingxId, .i .i64 fxThingxKind, .i .i64 fxThingxColour, .i .i64 fxThingxSize, .i .i64 fxThingxWorth, .i .i64 fxPlace, .i .i64 fxAt, .i .i64 fxFinder], .iptr 1 [[.i .i64 c]] 0 0] = (Qat (⟨⟨fxThingxId, fxThingxKind, fxThingxColour, fxThingxSize, fxThingxWorth⟩, fxPlace, fxAt, fxFinder⟩ : Find) c).map fun r => .b r := by
 rw [Qd]
 simp -dsimp +contextual only [↓evA, eZ, Nat.reduceAdd, Nat.reduceMul, Nat.reduceBEq, Nat.reduceLeDiff, Nat.reduceLT, Tryz.func248, Tryz.f248, QPL]
 try simp only [Qat, eY]
 all_goals rfl
theorem Za (n : Nat) {R1} {s : List Find} (f : Int) (t7 : Int) (t8 : Int) [H1 : EncL Qp R1 s] : LP T (n + 2) 247 2 (frm [(0, .imm 8 R1), (1, .clo 248 [.iptr 1 [[.i .i64 f]] 0 0]), (7, .i .i64 t7), (8, .i .i64 t8)]) [] =
  VC (run (Qw s f t7) t8) (fun (zr : Int) => (XE.ret, frm [(4, .i .i64 zr)], [])) (fun (zr : Unit) => (XE.exit 0, frm [], [])) := by
 obtain ⟨rfl⟩ := H1
 rw [Qr]
 simp -dsimp only [↓evA, evB, Qj, Tryz.func247, Tryz.f247, QCF, TP, TZ, Nat.reduceAdd, Nat.reduceMul, Nat.reduceBEq, Nat.reduceLeDiff, Nat.reduceLT]
 refine run_map (fun (zs : Int) => (frm [(0, .imm 8 (s.map Qp)), (1, .clo 248 [.iptr 1 [[.i .i64 f]] 0 0]), (7, .i .i64 t7), (8, .i .i64 zs)], [])) (evO (fun (zr : Int) => (XE.ret, frm [(4, .i .i64 zr)], [])) (fun (zr : Unit) => (XE.exit 0, frm [], []))) ?_ t8
 intro t8
 simp -dsimp +contextual only [↓evA, eZ, Nat.reduceAdd, Nat.reduceMul, Nat.reduceBEq, Nat.reduceLeDiff, Nat.reduceLT, Qgm]
 try simp only [Qw, eY]
 all_goals rfl
theorem ZM (n : Nat) {R1} {s : List Find} (c : Int) [H1 : EncL Qp R1 s] : CP T (n + 3) 247 [.imm 8 R1, .clo 248 [.iptr 1 [[.i .i64 c]] 0 0]] = (Q5 s c).map fun r => .i .i64 r := by
 obtain ⟨rfl⟩ := H1
 rw [Qd]
 simp -dsimp +contextual only [↓evA, eZ, Nat.reduceAdd, Nat.reduceMul, Nat.reduceBEq, Nat.reduceLeDiff, Nat.reduceLT, Tryz.func247, Tryz.f247, QCF, Za]
 try simp only [Q5, eY]
 all_goals rfl
theorem Qau (n : Nat) {R1} {l : List Find} (id : Int) [H1 : EncL Qp R1 l] : CP T (n + 4) 210 [.imm 8 R1, .i .i64 id] = (Xf l id).map fun r => .i .i64 r := by
 obtain ⟨rfl⟩ := H1
 rw [Qd]
 simp -dsimp +contextual only [↓evA, eZ, Nat.reduceAdd, Nat.reduceMul, Nat.reduceBEq, Nat.reduceLeDiff, Nat.reduceLT, Tryz.func210, Tryz.f210, QQq, ZM]
 try simp only [Xf, eY]
 all_goals rfl
theorem Q2 (n : Nat) (vn : Int) (low : Int) (high : Int) : CP T (n + 1) 101 [.i .i64 vn, .i .i64 low, .i .i64 high] = (Qb vn low high).map fun r => .b r := by
 rw [Qd]
 simp -dsimp +contextual only [↓evA, eZ, Nat.reduceAdd, Nat.reduceMul, Nat.reduceBEq, Nat.reduceLeDiff, Nat.reduceLT, Tryz.func101, Tryz.f101, QMa]
 try simp only [Qb, eY]
 all_goals rfl
theorem Qj5 (n : Nat) (xxId : Int) (xxKind : Int) (xxColour : Int) (xxSize : Int) (xxWorth : Int) : CP T (n + 2) 212 [.agg [.i .i64 xxId, .i .i64 xxKind, .i .i64 xxColour, .i .i64 xxSize, .i .i64 xxWorth]] = (Qbr (⟨xxId, xxKind, xxColour, xxSize, xxWorth⟩ : Thing)).map fun r => .b r := by
 rw [Qd]
 simp -dsimp +contextual only [↓evA, eZ, Nat.reduceAdd, Nat.reduceMul, Nat.reduceBEq, Nat.reduceLeDiff, Nat.reduceLT, Tryz.func212, Tryz.f212, QNU, Q2]
 try simp only [Qbr, eY]
 all_goals rfl
theorem QdB (n : Nat) (fxThingxId : Int) (fxThingxKind : Int) (fxThingxColour : Int) (fxThingxSize : Int) (fxThingxWorth : Int) (fxPlace : Int) (fxAt : Int) (fxFinder : Int) : CP T (n + 3) 233 [.agg [.i .i64 fxThingxId, .i .i64 fxThingxKind, .i .i64 fxThingxColour, .i .i64 fxThingxSize, .i .i64 fxThingxWorth, .i .i64 fxPlace, .i .i64 fxAt, .i .i64 fxFinder]] = (Zi (⟨⟨fxThingxId, fxThingxKind, fxThingxColour, fxThingxSize, fxThingxWorth⟩, fxPlace, fxAt, fxFinder⟩ : Find)).map fun r => .b r := by
 rw [Qd]
 simp -dsimp +contextual only [↓evA, eZ, Nat.reduceAdd, Nat.reduceMul, Nat.reduceBEq, Nat.reduceLeDiff, Nat.reduceLT, Tryz.func233, Tryz.f233, QQz, Qj5, Q2]
 try simp only [Zi, eY]
 all_goals rfl
theorem QgI (n : Nat) {R1} {l : List Find} {R2} {t8 : List Find} (t9 : Int) (t10 : Int) [H1 : EncL Qp R1 l] [H2 : EncL Qp R2 t8] : LP T (n + 4) 156 4 (frm [(0, .imm 8 R1), (8, .imm 8 R2), (9, .i .i64 t9), (10, .i .i64 t10)]) [] =
  VC (run (Jc l t8 t9) t10) (fun (zr : Bool) => (XE.ret, frm [(2, .b zr)], [])) (fun (zr : Unit) => (XE.exit 0, frm [], [])) := by
 rcases H1, H2 with ⟨⟨rfl⟩, ⟨rfl⟩⟩
 rw [Qr]
 simp -dsimp only [↓evA, evB, Qj, Tryz.func156, Tryz.f156, QE1, TP, TZ, Nat.reduceAdd, Nat.reduceMul, Nat.reduceBEq, Nat.reduceLeDiff, Nat.reduceLT]
 refine run_map (fun (zs : Int) => (frm [(0, .imm 8 (l.map Qp)), (8, .imm 8 (t8.map Qp)), (9, .i .i64 t9), (10, .i .i64 zs)], [])) (evO (fun (zr : Bool) => (XE.ret, frm [(2, .b zr)], [])) (fun (zr : Unit) => (XE.exit 0, frm [], []))) ?_ t10
 intro t10
 simp -dsimp +contextual only [↓evA, eZ, Nat.reduceAdd, Nat.reduceMul, Nat.reduceBEq, Nat.reduceLeDiff, Nat.reduceLT, QdB]
 try simp only [Jc, eY]
 all_goals rfl
theorem Qi9 (n : Nat) {R1} {l : List Find} [H1 : EncL Qp R1 l] : CP T (n + 5) 156 [.imm 8 R1] = (ZU l).map fun r => .b r := by
 obtain ⟨rfl⟩ := H1
 rw [Qd]
 simp -dsimp +contextual only [↓evA, eZ, Nat.reduceAdd, Nat.reduceMul, Nat.reduceBEq, Nat.reduceLeDiff, Nat.reduceLT, Tryz.func156, Tryz.f156, QE1, QgI]
 try simp only [ZU, eY]
 all_goals rfl
theorem QgA (n : Nat) {R1} {l : List Mark} {R2} {t8 : List Mark} (t9 : Int) (t10 : Int) [H1 : EncL Q4 R1 l] [H2 : EncL Q4 R2 t8] : LP T (n + 2) 197 4 (frm [(0, .imm 2 R1), (8, .imm 2 R2), (9, .i .i64 t9), (10, .i .i64 t10)]) [] =
  VC (run (Ja l t8 t9) t10) (fun (zr : Bool) => (XE.ret, frm [(2, .b zr)], [])) (fun (zr : Unit) => (XE.exit 0, frm [], [])) := by
 rcases H1, H2 with ⟨⟨rfl⟩, ⟨rfl⟩⟩
 rw [Qr]
 simp -dsimp only [↓evA, evB, Qj, Tryz.func197, Tryz.f197, QJo, TP, TZ, Nat.reduceAdd, Nat.reduceMul, Nat.reduceBEq, Nat.reduceLeDiff, Nat.reduceLT]
 refine run_map (fun (zs : Int) => (frm [(0, .imm 2 (l.map Q4)), (8, .imm 2 (t8.map Q4)), (9, .i .i64 t9), (10, .i .i64 zs)], [])) (evO (fun (zr : Bool) => (XE.ret, frm [(2, .b zr)], [])) (fun (zr : Unit) => (XE.exit 0, frm [], []))) ?_ t10
 intro t10
 simp -dsimp +contextual only [↓evA, eZ, Nat.reduceAdd, Nat.reduceMul, Nat.reduceBEq, Nat.reduceLeDiff, Nat.reduceLT, Q2]
 try simp only [Ja, eY]
 all_goals rfl
theorem Qet (n : Nat) {R1} {l : List Mark} [H1 : EncL Q4 R1 l] : CP T (n + 3) 197 [.imm 2 R1] = (ZY l).map fun r => .b r := by
 obtain ⟨rfl⟩ := H1
 rw [Qd]
 simp -dsimp +contextual only [↓evA, eZ, Nat.reduceAdd, Nat.reduceMul, Nat.reduceBEq, Nat.reduceLeDiff, Nat.reduceLT, Tryz.func197, Tryz.f197, QJo, QgA]
 try simp only [ZY, eY]
 all_goals rfl
theorem QeI (n : Nat) {R1} {l : List Secret} {R2} {t8 : List Secret} (t9 : Int) (t10 : Int) [H1 : EncL Qe R1 l] [H2 : EncL Qe R2 t8] : LP T (n + 4) 157 4 (frm [(0, .imm 3 R1), (8, .imm 3 R2), (9, .i .i64 t9), (10, .i .i64 t10)]) [] =
  VC (run (V7 l t8 t9) t10) (fun (zr : Bool) => (XE.ret, frm [(2, .b zr)], [])) (fun (zr : Unit) => (XE.exit 0, frm [], [])) := by
 rcases H1, H2 with ⟨⟨rfl⟩, ⟨rfl⟩⟩
 rw [Qr]
 simp -dsimp only [↓evA, evB, Qj, Tryz.func157, Tryz.f157, QIP, TP, TZ, Nat.reduceAdd, Nat.reduceMul, Nat.reduceBEq, Nat.reduceLeDiff, Nat.reduceLT]
 refine run_map (fun (zs : Int) => (frm [(0, .imm 3 (l.map Qe)), (8, .imm 3 (t8.map Qe)), (9, .i .i64 t9), (10, .i .i64 zs)], [])) (evO (fun (zr : Bool) => (XE.ret, frm [(2, .b zr)], [])) (fun (zr : Unit) => (XE.exit 0, frm [], []))) ?_ t10
 intro t10
 simp -dsimp +contextual only [↓evA, eZ, Nat.reduceAdd, Nat.reduceMul, Nat.reduceBEq, Nat.reduceLeDiff, Nat.reduceLT, Q2, Qet]
 try simp only [V7, eY]
 all_goals rfl
theorem Qhu (n : Nat) {R1} {l : List Secret} [H1 : EncL Qe R1 l] : CP T (n + 5) 157 [.imm 3 R1] = (Jr l).map fun r => .b r := by
 obtain ⟨rfl⟩ := H1
 rw [Qd]
 simp -dsimp +contextual only [↓evA, eZ, Nat.reduceAdd, Nat.reduceMul, Nat.reduceBEq, Nat.reduceLeDiff, Nat.reduceLT, Tryz.func157, Tryz.f157, QIP, QeI]
 try simp only [Jr, eY]
 all_goals rfl
theorem QhC (n : Nat) (xxId : Int) (xxSize : Int) (xxThing : Int) (c : Int) : CP T (n + 1) 203 [.agg [.i .i64 xxId, .i .i64 xxSize, .i .i64 xxThing], .iptr 1 [[.i .i64 c]] 0 0] = (Qa0 (⟨xxId, xxSize, xxThing⟩ : Slot) c).map fun r => .b r := by
 rw [Qd]
 simp -dsimp +contextual only [↓evA, eZ, Nat.reduceAdd, Nat.reduceMul, Nat.reduceBEq, Nat.reduceLeDiff, Nat.reduceLT, Tryz.func203, Tryz.f203, QPE]
 try simp only [Qa0, eY]
 all_goals rfl
theorem Zh (n : Nat) {R1} {s : List Slot} (f : Int) (t7 : Int) (t8 : Int) [H1 : EncL Qm R1 s] : LP T (n + 2) 202 2 (frm [(0, .imm 3 R1), (1, .clo 203 [.iptr 1 [[.i .i64 f]] 0 0]), (7, .i .i64 t7), (8, .i .i64 t8)]) [] =
  VC (run (Qy s f t7) t8) (fun (zr : Int) => (XE.ret, frm [(4, .i .i64 zr)], [])) (fun (zr : Unit) => (XE.exit 0, frm [], [])) := by
 obtain ⟨rfl⟩ := H1
 rw [Qr]
 simp -dsimp only [↓evA, evB, Qj, Tryz.func202, Tryz.f202, QHK, TP, TZ, Nat.reduceAdd, Nat.reduceMul, Nat.reduceBEq, Nat.reduceLeDiff, Nat.reduceLT]
 refine run_map (fun (zs : Int) => (frm [(0, .imm 3 (s.map Qm)), (1, .clo 203 [.iptr 1 [[.i .i64 f]] 0 0]), (7, .i .i64 t7), (8, .i .i64 zs)], [])) (evO (fun (zr : Int) => (XE.ret, frm [(4, .i .i64 zr)], [])) (fun (zr : Unit) => (XE.exit 0, frm [], []))) ?_ t8
 intro t8
 simp -dsimp +contextual only [↓evA, eZ, Nat.reduceAdd, Nat.reduceMul, Nat.reduceBEq, Nat.reduceLeDiff, Nat.reduceLT, QhC]
 try simp only [Qy, eY]
 all_goals rfl
theorem Z0 (n : Nat) {R1} {s : List Slot} (c : Int) [H1 : EncL Qm R1 s] : CP T (n + 3) 202 [.imm 3 R1, .clo 203 [.iptr 1 [[.i .i64 c]] 0 0]] = (Q7 s c).map fun r => .i .i64 r := by
 obtain ⟨rfl⟩ := H1
 rw [Qd]
 simp -dsimp +contextual only [↓evA, eZ, Nat.reduceAdd, Nat.reduceMul, Nat.reduceBEq, Nat.reduceLeDiff, Nat.reduceLT, Tryz.func202, Tryz.f202, QHK, Zh]
 try simp only [Q7, eY]
 all_goals rfl
theorem Qa2 (n : Nat) {R1} {l : List Slot} (thing : Int) [H1 : EncL Qm R1 l] : CP T (n + 4) 114 [.imm 3 R1, .i .i64 thing] = (Xd l thing).map fun r => .i .i64 r := by
 obtain ⟨rfl⟩ := H1
 rw [Qd]
 simp -dsimp +contextual only [↓evA, eZ, Nat.reduceAdd, Nat.reduceMul, Nat.reduceBEq, Nat.reduceLeDiff, Nat.reduceLT, Tryz.func114, Tryz.f114, QLO, Z0]
 try simp only [Xd, eY]
 all_goals rfl
theorem Qmb (n : Nat) {R1} {l : List Slot} (thing : Int) [H1 : EncL Qm R1 l] : CP T (n + 5) 234 [.imm 3 R1, .i .i64 thing] = (Qbd l thing).map fun r => .i .i64 r := by
 obtain ⟨rfl⟩ := H1
 rw [Qd]
 simp -dsimp +contextual only [↓evA, eZ, Nat.reduceAdd, Nat.reduceMul, Nat.reduceBEq, Nat.reduceLeDiff, Nat.reduceLT, Tryz.func234, Tryz.f234, QOX, Qa2]
 try simp only [Qbd, eY]
 all_goals rfl
theorem QgD (n : Nat) {R1} {l : List Slot} {R2} {t8 : List Slot} (t9 : Int) (t10 : Int) [H1 : EncL Qm R1 l] [H2 : EncL Qm R2 t8] : LP T (n + 6) 158 4 (frm [(0, .imm 3 R1), (8, .imm 3 R2), (9, .i .i64 t9), (10, .i .i64 t10)]) [] =
  VC (run (Je l t8 t9) t10) (fun (zr : Bool) => (XE.ret, frm [(2, .b zr)], [])) (fun (zr : Unit) => (XE.exit 0, frm [], [])) := by
 rcases H1, H2 with ⟨⟨rfl⟩, ⟨rfl⟩⟩
 rw [Qr]
 simp -dsimp only [↓evA, evB, Qj, Tryz.func158, Tryz.f158, QE4, TP, TZ, Nat.reduceAdd, Nat.reduceMul, Nat.reduceBEq, Nat.reduceLeDiff, Nat.reduceLT]
 refine run_map (fun (zs : Int) => (frm [(0, .imm 3 (l.map Qm)), (8, .imm 3 (t8.map Qm)), (9, .i .i64 t9), (10, .i .i64 zs)], [])) (evO (fun (zr : Bool) => (XE.ret, frm [(2, .b zr)], [])) (fun (zr : Unit) => (XE.exit 0, frm [], []))) ?_ t10
 intro t10
 simp -dsimp +contextual only [↓evA, eZ, Nat.reduceAdd, Nat.reduceMul, Nat.reduceBEq, Nat.reduceLeDiff, Nat.reduceLT, Q2, Qmb]
 try simp only [Je, eY]
 all_goals rfl
theorem Qeo (n : Nat) {R1} {l : List Slot} [H1 : EncL Qm R1 l] : CP T (n + 7) 158 [.imm 3 R1] = (JS l).map fun r => .b r := by
 obtain ⟨rfl⟩ := H1
 rw [Qd]
 simp -dsimp +contextual only [↓evA, eZ, Nat.reduceAdd, Nat.reduceMul, Nat.reduceBEq, Nat.reduceLeDiff, Nat.reduceLT, Tryz.func158, Tryz.f158, QE4, QgD]
 try simp only [JS, eY]
 all_goals rfl
end Go.Proofs.YtcdffihcfeajfaaGreat
