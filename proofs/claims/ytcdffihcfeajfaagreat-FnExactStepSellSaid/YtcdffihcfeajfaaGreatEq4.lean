import Derived.Test.YtcdffihcfeajfaaGreatEq3
namespace Go.Proofs.YtcdffihcfeajfaaGreat
open Go Go.Proofs Go.Proofs.YtcdffihcfeajfaaGreat.Am
set_option maxHeartbeats 4000000
set_option linter.unusedVariables false
set_option linter.unusedSimpArgs false
set_option linter.defProp false
set_option maxRecDepth 100000
theorem Z5 (n : Nat) {R1} {s : List Claim} (cxId : Int) (cxKind : Int) (cxColour : Int) (cxSize : Int) (cxWorth : Int) [H1 : EncL Qc R1 s] : CP T (n + 3) 190 [.imm 5 R1, .clo 215 [.iptr 5 [[.i .i64 cxId, .i .i64 cxKind, .i .i64 cxColour, .i .i64 cxSize, .i .i64 cxWorth]] 0 0]] = (Va s (⟨cxId, cxKind, cxColour, cxSize, cxWorth⟩ : Thing)).map fun r => .i .i64 r := by
 obtain ⟨rfl⟩ := H1
 rw [Qd]
 simp -dsimp +contextual only [↓evA, eZ, Nat.reduceAdd, Nat.reduceMul, Nat.reduceBEq, Nat.reduceLeDiff, Nat.reduceLT, Tryz.func190, Tryz.f190, QDE, Zt]
 try simp only [Va, eY]
 all_goals rfl
theorem Zv (n : Nat) {R1} {s : List Claim} (cxId : Int) (cxKind : Int) (cxColour : Int) (cxSize : Int) (cxWorth : Int) [H1 : EncL Qc R1 s] : CP T (n + 4) 199 [.imm 5 R1, .clo 215 [.iptr 5 [[.i .i64 cxId, .i .i64 cxKind, .i .i64 cxColour, .i .i64 cxSize, .i .i64 cxWorth]] 0 0]] = (QI s (⟨cxId, cxKind, cxColour, cxSize, cxWorth⟩ : Thing)).map fun r => .b r := by
 obtain ⟨rfl⟩ := H1
 rw [Qd]
 simp -dsimp +contextual only [↓evA, eZ, Nat.reduceAdd, Nat.reduceMul, Nat.reduceBEq, Nat.reduceLeDiff, Nat.reduceLT, Tryz.func199, Tryz.f199, QMj, Z5]
 try simp only [QI, eY]
 all_goals rfl
theorem Ql3 (n : Nat) (fxThingxId : Int) (fxThingxKind : Int) (fxThingxColour : Int) (fxThingxSize : Int) (fxThingxWorth : Int) (fxPlace : Int) (fxAt : Int) (fxFinder : Int) {R1} {l : List Claim} (now : Int) [H1 : EncL Qc R1 l] : CP T (n + 6) 128 [.agg [.i .i64 fxThingxId, .i .i64 fxThingxKind, .i .i64 fxThingxColour, .i .i64 fxThingxSize, .i .i64 fxThingxWorth, .i .i64 fxPlace, .i .i64 fxAt, .i .i64 fxFinder], .imm 5 R1, .i .i64 now] = (Qcv (⟨⟨fxThingxId, fxThingxKind, fxThingxColour, fxThingxSize, fxThingxWorth⟩, fxPlace, fxAt, fxFinder⟩ : Find) l now).map fun r => .i .i64 r := by
 obtain ⟨rfl⟩ := H1
 rw [Qd]
 simp -dsimp +contextual only [↓evA, eZ, Nat.reduceAdd, Nat.reduceMul, Nat.reduceBEq, Nat.reduceLeDiff, Nat.reduceLT, Tryz.func128, Tryz.f128, QPf, Qgh, QnV, Zv]
 try simp only [Qcv, eY]
 all_goals rfl
theorem QfE (n : Nat) {R1} {s : List Find} [H1 : EncL Qp R1 s] : CP T (n + 1) 177 [.imm 8 R1] = (Z4 s).map fun r => .own 8 (r.map Qp) := by
 obtain ⟨rfl⟩ := H1
 rw [Qd]
 simp -dsimp +contextual only [↓evA, eZ, Nat.reduceAdd, Nat.reduceMul, Nat.reduceBEq, Nat.reduceLeDiff, Nat.reduceLT, Tryz.func177, Tryz.f177, QLb]
 try simp only [Z4, eY]
 all_goals first | rfl | (simp +contextual only [evN] <;> rfl)
theorem Qd3 (n : Nat) {R1} {out : List Secret} {R2} {t7 : List Secret} (t8 : Int) (t9 : Int) [H1 : EncL QS R1 out] [H2 : EncL Qe R2 t7] : LP T (n + 2) 178 3 (frm [(3, .sl 0), (7, .imm 3 R2), (8, .i .i64 t8), (9, .i .i64 t9)]) [some (Ent.lst 3 R1)] =
  (run (Vo t7 t8) (out, t9)).map (fun (zr : (List Secret)) => (XE.exit 0, frm [(3, .sl 0)], [some (Ent.lst 3 (zr.map QS))])) := by
 rcases H1, H2 with ⟨⟨rfl⟩, ⟨rfl⟩⟩
 rw [Qr]
 simp -dsimp only [↓evA, evB, Qj, Tryz.func178, Tryz.f178, QHg, TP, TZ, Nat.reduceAdd, Nat.reduceMul, Nat.reduceBEq, Nat.reduceLeDiff, Nat.reduceLT]
 refine run_map (fun (zs : (List Secret) × Int) => (frm [(3, .sl 0), (7, .imm 3 (t7.map Qe)), (8, .i .i64 t8), (9, .i .i64 zs.2)], [some (Ent.lst 3 (zs.1.map QS))])) (fun (zr : (List Secret)) => (XE.exit 0, frm [(3, .sl 0)], [some (Ent.lst 3 (zr.map QS))])) ?_ (out, t9)
 rintro ⟨out, t9⟩
 simp -dsimp +contextual only [↓evA, eZ, Nat.reduceAdd, Nat.reduceMul, Nat.reduceBEq, Nat.reduceLeDiff, Nat.reduceLT, QcK]
 try simp only [Vo, eY]
 all_goals rfl
theorem QfO (n : Nat) {R1} {l : List Secret} [H1 : EncL Qe R1 l] : CP T (n + 3) 178 [.imm 3 R1] = (JF l).map fun r => .own 3 (r.map QS) := by
 obtain ⟨rfl⟩ := H1
 rw [Qd]
 simp -dsimp +contextual only [↓evA, eZ, Nat.reduceAdd, Nat.reduceMul, Nat.reduceBEq, Nat.reduceLeDiff, Nat.reduceLT, Tryz.func178, Tryz.f178, QHg, Qd3]
 try simp only [JF, eY]
 all_goals first | rfl | (simp +contextual only [evN] <;> rfl)
theorem QcH (n : Nat) {R1} {s : List Slot} [H1 : EncL Qm R1 s] : CP T (n + 1) 63 [.imm 3 R1] = (Xm s).map fun r => .own 3 (r.map Qm) := by
 obtain ⟨rfl⟩ := H1
 rw [Qd]
 simp -dsimp +contextual only [↓evA, eZ, Nat.reduceAdd, Nat.reduceMul, Nat.reduceBEq, Nat.reduceLeDiff, Nat.reduceLT, Tryz.func63, Tryz.f63, a63]
 try simp only [Xm, eY]
 all_goals first | rfl | (simp +contextual only [evN] <;> rfl)
theorem QeF (n : Nat) {R1} {s : List Claim} [H1 : EncL Qc R1 s] : CP T (n + 1) 179 [.imm 5 R1] = (Zs s).map fun r => .own 5 (r.map Qc) := by
 obtain ⟨rfl⟩ := H1
 rw [Qd]
 simp -dsimp +contextual only [↓evA, eZ, Nat.reduceAdd, Nat.reduceMul, Nat.reduceBEq, Nat.reduceLeDiff, Nat.reduceLT, Tryz.func179, Tryz.f179, QOF]
 try simp only [Zs, eY]
 all_goals first | rfl | (simp +contextual only [evN] <;> rfl)
theorem Qfg (n : Nat) {R1} {s : List Trial} [H1 : EncL Qk R1 s] : CP T (n + 1) 180 [.imm 4 R1] = (Zu s).map fun r => .own 4 (r.map Qk) := by
 obtain ⟨rfl⟩ := H1
 rw [Qd]
 simp -dsimp +contextual only [↓evA, eZ, Nat.reduceAdd, Nat.reduceMul, Nat.reduceBEq, Nat.reduceLeDiff, Nat.reduceLT, Tryz.func180, Tryz.f180, QNy]
 try simp only [Zu, eY]
 all_goals first | rfl | (simp +contextual only [evN] <;> rfl)
theorem QcI (n : Nat) {R1} {s : List Hand} [H1 : EncL Qn R1 s] : CP T (n + 1) 181 [.imm 5 R1] = (Vl s).map fun r => .own 5 (r.map Qn) := by
 obtain ⟨rfl⟩ := H1
 rw [Qd]
 simp -dsimp +contextual only [↓evA, eZ, Nat.reduceAdd, Nat.reduceMul, Nat.reduceBEq, Nat.reduceLeDiff, Nat.reduceLT, Tryz.func181, Tryz.f181, QP6]
 try simp only [Vl, eY]
 all_goals first | rfl | (simp +contextual only [evN] <;> rfl)
theorem Qct (n : Nat) {R1} {s : List Entry} [H1 : EncL Qh R1 s] : CP T (n + 1) 182 [.imm 4 R1] = (VB s).map fun r => .own 4 (r.map Qh) := by
 obtain ⟨rfl⟩ := H1
 rw [Qd]
 simp -dsimp +contextual only [↓evA, eZ, Nat.reduceAdd, Nat.reduceMul, Nat.reduceBEq, Nat.reduceLeDiff, Nat.reduceLT, Tryz.func182, Tryz.f182, a182]
 try simp only [VB, eY]
 all_goals first | rfl | (simp +contextual only [evN] <;> rfl)
theorem QbI (n : Nat) (vhxNo : Int) {R1} {vhxFinds : List Find} {R2} {vhxSecrets : List Secret} {R3} {vhxSlots : List Slot} {R4} {vhxClaims : List Claim} {R5} {vhxTrials : List Trial} {R6} {vhxChain : List Hand} {R7} {vhxBook : List Entry} (vhxNow : Int) [H1 : EncL Qp R1 vhxFinds] [H2 : EncL Qe R2 vhxSecrets] [H3 : EncL Qm R3 vhxSlots] [H4 : EncL Qc R4 vhxClaims] [H5 : EncL Qk R5 vhxTrials] [H6 : EncL Qn R6 vhxChain] [H7 : EncL Qh R7 vhxBook] : CP T (n + 4) 99 [.agg [.i .i64 vhxNo, .imm 8 R1, .imm 3 R2, .imm 3 R3, .imm 5 R4, .imm 4 R5, .imm 5 R6, .imm 4 R7, .i .i64 vhxNow]] = (XI (⟨vhxNo, vhxFinds, vhxSecrets, vhxSlots, vhxClaims, vhxTrials, vhxChain, vhxBook, vhxNow⟩ : House)).map fun r => .agg (Z2 r) := by
 rcases H1, H2, H3, H4, H5, H6, H7 with ⟨⟨rfl⟩, ⟨rfl⟩, ⟨rfl⟩, ⟨rfl⟩, ⟨rfl⟩, ⟨rfl⟩, ⟨rfl⟩⟩
 rw [Qd]
 simp -dsimp +contextual (maxSteps := 100000000) only [↓evA, eZ, Nat.reduceAdd, Nat.reduceMul, Nat.reduceBEq, Nat.reduceLeDiff, Nat.reduceLT, Tryz.func99, Tryz.f99, a99, QfE, QfO, QcH, QeF, Qfg, QcI, Qct]
 try simp only [XI, eY]
 all_goals rfl
theorem Qkr (n : Nat) {R1} {l : List Slot} (thing : Int) [H1 : EncL Qm R1 l] : CP T (n + 8) 211 [.imm 3 R1, .i .i64 thing] = (Qbz l thing).map fun r => .tup [.own 3 (r.1.map Qm), .b r.2] := by
 obtain ⟨rfl⟩ := H1
 rw [Qd]
 simp -dsimp +contextual only [↓evA, eZ, Nat.reduceAdd, Nat.reduceMul, Nat.reduceBEq, Nat.reduceLeDiff, Nat.reduceLT, Tryz.func211, Tryz.f211, QMg, QcH, Qa2, Qeo]
 try simp only [Qbz, eY]
 all_goals first | rfl | (simp +contextual only [evN] <;> rfl)
theorem Qj2 (n : Nat) {R1} {l : List Hand} (xxThing : Int) (xxHolder : Int) (xxWho : Int) (xxAt : Int) (xxSeal : Int) [H1 : EncL Qn R1 l] : CP T (n + 9) 138 [.imm 5 R1, .agg [.i .i64 xxThing, .i .i64 xxHolder, .i .i64 xxWho, .i .i64 xxAt, .i .i64 xxSeal]] = (Qb1 l (⟨xxThing, xxHolder, xxWho, xxAt, xxSeal⟩ : Hand)).map fun r => .tup [.own 5 (r.1.map Qn), .b r.2] := by
 obtain ⟨rfl⟩ := H1
 rw [Qd]
 simp -dsimp +contextual only [↓evA, eZ, Nat.reduceAdd, Nat.reduceMul, Nat.reduceBEq, Nat.reduceLeDiff, Nat.reduceLT, Tryz.func138, Tryz.f138, QOl, Qes, QcI, QcY]
 try simp only [Qb1, eY]
 try simp only [List.contains_nil, Bool.not_false, Bool.and_true, JE, List.length_append, List.length_cons, List.length_nil, Nat.zero_add, J1, ZP]
 all_goals first | rfl | (simp +contextual only [evN] <;> rfl)
theorem Ql8 (n : Nat) (vhxNo : Int) {R1} {vhxFinds : List Find} {R2} {vhxSecrets : List Secret} {R3} {vhxSlots : List Slot} {R4} {vhxClaims : List Claim} {R5} {vhxTrials : List Trial} {R6} {vhxChain : List Hand} {R7} {vhxBook : List Entry} (vhxNow : Int) (thing : Int) (holder : Int) (who : Int) [H1 : EncL Qp R1 vhxFinds] [H2 : EncL Qe R2 vhxSecrets] [H3 : EncL Qm R3 vhxSlots] [H4 : EncL Qc R4 vhxClaims] [H5 : EncL Qk R5 vhxTrials] [H6 : EncL Qn R6 vhxChain] [H7 : EncL Qh R7 vhxBook] : CP T (n + 10) 124 [.agg [.i .i64 vhxNo, .imm 8 R1, .imm 3 R2, .imm 3 R3, .imm 5 R4, .imm 4 R5, .imm 5 R6, .imm 4 R7, .i .i64 vhxNow], .i .i64 thing, .i .i64 holder, .i .i64 who] = (Qcx (⟨vhxNo, vhxFinds, vhxSecrets, vhxSlots, vhxClaims, vhxTrials, vhxChain, vhxBook, vhxNow⟩ : House) thing holder who).map fun r => .tup [.agg (Z2 r.1), .b r.2] := by
 rcases H1, H2, H3, H4, H5, H6, H7 with ⟨⟨rfl⟩, ⟨rfl⟩, ⟨rfl⟩, ⟨rfl⟩, ⟨rfl⟩, ⟨rfl⟩, ⟨rfl⟩⟩
 rw [Qd]
 simp -dsimp +contextual (maxSteps := 100000000) only [↓evA, eZ, Nat.reduceAdd, Nat.reduceMul, Nat.reduceBEq, Nat.reduceLeDiff, Nat.reduceLT, Tryz.func124, Tryz.f124, QNx, QbI, Qkr, Qj2]
 try simp only [Qcx, eY]
 all_goals rfl
theorem Qjb (n : Nat) {R1} {l : List Entry} (xxFrom : Int) (xxTo : Int) (xxCents : Int) (xxAt : Int) [H1 : EncL Qh R1 l] : CP T (n + 4) 126 [.imm 4 R1, .agg [.i .i64 xxFrom, .i .i64 xxTo, .i .i64 xxCents, .i .i64 xxAt]] = (JQ l (⟨xxFrom, xxTo, xxCents, xxAt⟩ : Entry)).map fun r => .tup [.own 4 (r.1.map Qh), .b r.2] := by
 obtain ⟨rfl⟩ := H1
 rw [Qd]
 simp -dsimp +contextual only [↓evA, eZ, Nat.reduceAdd, Nat.reduceMul, Nat.reduceBEq, Nat.reduceLeDiff, Nat.reduceLT, Tryz.func126, Tryz.f126, QK4, Qct, Qdu]
 try simp only [JQ, eY]
 try simp only [List.contains_nil, Bool.not_false, Bool.and_true, JE, List.length_append, List.length_cons, List.length_nil, Nat.zero_add, J1, ZP]
 all_goals first | rfl | (simp +contextual only [evN] <;> rfl)
theorem Qe5 (n : Nat) (cents : Int) {R1} {t1 : List Int} {R2} {t5 : List Int} (t6 : Int) {R3} {t25 : List Int} (t26 : Int) (t27 : Int) [H1 : EncL Qt R1 t1] [H2 : EncL Qt R2 t5] [H3 : EncL Qt R3 t25] : LP T (n + 2) 227 6 (frm [(0, .i .i64 cents), (1, .imm 1 R1), (5, .sl 0), (6, .i .i64 t6), (25, .imm 1 R3), (26, .i .i64 t26), (27, .i .i64 t27)]) [some (Ent.lst 1 R2)] =
  VC (run (V2 cents t1 t5 t25 t26) (t6, t27)) (fun (zr : (List Int)) => (XE.ret, frm [(4, .sl 0)], [some (Ent.lst 1 (zr.map Qt))])) (fun (zr : Int) => (XE.exit 0, frm [(0, .i .i64 cents), (1, .imm 1 (t1.map Qt)), (5, .sl 0), (6, .i .i64 zr)], [some (Ent.lst 1 (t5.map Qt))])) := by
 rcases H1, H2, H3 with ⟨⟨rfl⟩, ⟨rfl⟩, ⟨rfl⟩⟩
 rw [Qr]
 simp -dsimp only [↓evA, evB, Qj, Tryz.func227, Tryz.f227, QwW, TP, TZ, Nat.reduceAdd, Nat.reduceMul, Nat.reduceBEq, Nat.reduceLeDiff, Nat.reduceLT]
 refine run_map (fun (zs : Int × Int) => (frm [(0, .i .i64 cents), (1, .imm 1 (t1.map Qt)), (5, .sl 0), (6, .i .i64 zs.1), (25, .imm 1 (t25.map Qt)), (26, .i .i64 t26), (27, .i .i64 zs.2)], [some (Ent.lst 1 (t5.map Qt))])) (evO (fun (zr : (List Int)) => (XE.ret, frm [(4, .sl 0)], [some (Ent.lst 1 (zr.map Qt))])) (fun (zr : Int) => (XE.exit 0, frm [(0, .i .i64 cents), (1, .imm 1 (t1.map Qt)), (5, .sl 0), (6, .i .i64 zr)], [some (Ent.lst 1 (t5.map Qt))]))) ?_ (t6, t27)
 rintro ⟨t6, t27⟩
 simp -dsimp +contextual only [↓evA, eZ, Nat.reduceAdd, Nat.reduceMul, Nat.reduceBEq, Nat.reduceLeDiff, Nat.reduceLT, Q2]
 try simp only [V2, eY]
 all_goals rfl
theorem Qez (n : Nat) (cents : Int) {R1} {t5 : List Int} (t6 : Int) (t9 : Int) {R2} {t43 : List Int} (t44 : Int) (t45 : Int) [H1 : EncL Qt R1 t5] [H2 : EncL Qt R2 t43] : LP T (n + 1) 227 16 (frm [(0, .i .i64 cents), (5, .sl 0), (6, .i .i64 t6), (9, .i .i64 t9), (43, .imm 1 R2), (44, .i .i64 t44), (45, .i .i64 t45)]) [some (Ent.lst 1 R1)] =
  (run (Vu cents t6 t43 t44) (t5, t9, t45)).map (fun (zr : (List Int) × Int) => (XE.exit 2, frm [(5, .sl 0), (9, .i .i64 zr.2)], [some (Ent.lst 1 (zr.1.map Qt))])) := by
 rcases H1, H2 with ⟨⟨rfl⟩, ⟨rfl⟩⟩
 rw [Qr]
 simp -dsimp only [↓evA, evB, Qj, Tryz.func227, Tryz.f227, QwW, TP, TZ, Nat.reduceAdd, Nat.reduceMul, Nat.reduceBEq, Nat.reduceLeDiff, Nat.reduceLT]
 refine run_map (fun (zs : (List Int) × Int × Int) => (frm [(0, .i .i64 cents), (5, .sl 0), (6, .i .i64 t6), (9, .i .i64 zs.2.1), (43, .imm 1 (t43.map Qt)), (44, .i .i64 t44), (45, .i .i64 zs.2.2)], [some (Ent.lst 1 (zs.1.map Qt))])) (fun (zr : (List Int) × Int) => (XE.exit 2, frm [(5, .sl 0), (9, .i .i64 zr.2)], [some (Ent.lst 1 (zr.1.map Qt))])) ?_ (t5, t9, t45)
 rintro ⟨t5, t9, t45⟩
 simp -dsimp +contextual only [↓evA, eZ, Nat.reduceAdd, Nat.reduceMul, Nat.reduceBEq, Nat.reduceLeDiff, Nat.reduceLT]
 try simp only [Vu, eY]
 all_goals rfl
theorem QeE (n : Nat) {R1} {t5 : List Int} (t9 : Int) (t13 : Int) [H1 : EncL Qt R1 t5] : LP T (n + 1) 227 23 (frm [(5, .sl 0), (9, .i .i64 t9), (13, .i .i64 t13)]) [some (Ent.lst 1 R1)] =
  (run VO (t5, t9, t13)).map (fun (zr : (List Int)) => (XE.exit 4, frm [(5, .sl 0)], [some (Ent.lst 1 (zr.map Qt))])) := by
 obtain ⟨rfl⟩ := H1
 rw [Qr]
 simp -dsimp only [↓evA, evB, Qj, Tryz.func227, Tryz.f227, QwW, TP, TZ, Nat.reduceAdd, Nat.reduceMul, Nat.reduceBEq, Nat.reduceLeDiff, Nat.reduceLT]
 refine run_map (fun (zs : (List Int) × Int × Int) => (frm [(5, .sl 0), (9, .i .i64 zs.2.1), (13, .i .i64 zs.2.2)], [some (Ent.lst 1 (zs.1.map Qt))])) (fun (zr : (List Int)) => (XE.exit 4, frm [(5, .sl 0)], [some (Ent.lst 1 (zr.map Qt))])) ?_ (t5, t9, t13)
 rintro ⟨t5, t9, t13⟩
 simp -dsimp +contextual only [↓evA, eZ, Nat.reduceAdd, Nat.reduceMul, Nat.reduceBEq, Nat.reduceLeDiff, Nat.reduceLT]
 try simp only [VO, eY]
 all_goals rfl
theorem Qho (n : Nat) (cents : Int) {R1} {a : List Int} [H1 : EncL Qt R1 a] : CP T (n + 3) 227 [.i .i64 cents, .imm 1 R1] = (ZJ cents a).map fun r => .own 1 (r.map Qt) := by
 obtain ⟨rfl⟩ := H1
 rw [Qd]
 simp -dsimp +contextual only [↓evA, eZ, Nat.reduceAdd, Nat.reduceMul, Nat.reduceBEq, Nat.reduceLeDiff, Nat.reduceLT, Tryz.func227, Tryz.f227, QwW, Q2, Qe5, Qez, QeE]
 try simp only [ZJ, eY]
 all_goals first | rfl | (simp +contextual only [evN] <;> rfl)
theorem Qk1 (n : Nat) (price : Int) (finder : Int) : CP T (n + 4) 144 [.i .i64 price, .i .i64 finder] = (Qbq price finder).map fun r => .own 2 (r.map Qgv) := by
 rw [Qd]
 simp -dsimp +contextual only [↓evA, eZ, Nat.reduceAdd, Nat.reduceMul, Nat.reduceBEq, Nat.reduceLeDiff, Nat.reduceLT, Tryz.func144, Tryz.f144, QPQ, Q2, Qho]
 try simp only [Qbq, eY]
 all_goals first | rfl | (simp +contextual only [evN] <;> rfl)
theorem QdZ (n : Nat) {R1} {s : List Bool} (v : Bool) (t7 : Int) (t8 : Int) [H1 : EncL c_b R1 s] : LP T (n + 1) 239 2 (frm [(0, .imm 1 R1), (1, .b v), (7, .i .i64 t7), (8, .i .i64 t8)]) [] =
  VC (run (VD s v t7) t8) (fun (zr : Int) => (XE.ret, frm [(4, .i .i64 zr)], [])) (fun (zr : Unit) => (XE.exit 0, frm [], [])) := by
 obtain ⟨rfl⟩ := H1
 rw [Qr]
 simp -dsimp only [↓evA, evB, Qj, Tryz.func239, Tryz.f239, QGx, TP, TZ, Nat.reduceAdd, Nat.reduceMul, Nat.reduceBEq, Nat.reduceLeDiff, Nat.reduceLT]
 refine run_map (fun (zs : Int) => (frm [(0, .imm 1 (s.map c_b)), (1, .b v), (7, .i .i64 t7), (8, .i .i64 zs)], [])) (evO (fun (zr : Int) => (XE.ret, frm [(4, .i .i64 zr)], [])) (fun (zr : Unit) => (XE.exit 0, frm [], []))) ?_ t8
 intro t8
 simp -dsimp +contextual only [↓evA, eZ, Nat.reduceAdd, Nat.reduceMul, Nat.reduceBEq, Nat.reduceLeDiff, Nat.reduceLT]
 try simp only [VD, eY]
 all_goals rfl
theorem QfF (n : Nat) {R1} {s : List Bool} (v : Bool) [H1 : EncL c_b R1 s] : CP T (n + 2) 239 [.imm 1 R1, .b v] = (Z3 s v).map fun r => .i .i64 r := by
 obtain ⟨rfl⟩ := H1
 rw [Qd]
 simp -dsimp +contextual only [↓evA, eZ, Nat.reduceAdd, Nat.reduceMul, Nat.reduceBEq, Nat.reduceLeDiff, Nat.reduceLT, Tryz.func239, Tryz.f239, QGx, QdZ]
 try simp only [Z3, eY]
 all_goals rfl
theorem Qef (n : Nat) {R1} {s : List Bool} (v : Bool) [H1 : EncL c_b R1 s] : CP T (n + 3) 183 [.imm 1 R1, .b v] = (Xh s v).map fun r => .b r := by
 obtain ⟨rfl⟩ := H1
 rw [Qd]
 simp -dsimp +contextual only [↓evA, eZ, Nat.reduceAdd, Nat.reduceMul, Nat.reduceBEq, Nat.reduceLeDiff, Nat.reduceLT, Tryz.func183, Tryz.f183, a183, QfF]
 try simp only [Xh, eY]
 all_goals rfl
theorem QlF (n : Nat) (vhxNo : Int) {R1} {vhxFinds : List Find} {R2} {vhxSecrets : List Secret} {R3} {vhxSlots : List Slot} {R4} {vhxClaims : List Claim} {R5} {vhxTrials : List Trial} {R6} {vhxChain : List Hand} {R7} {vhxBook : List Entry} (vhxNow : Int) (outxNo : Int) {R8} {outxFinds : List Find} {R9} {outxSecrets : List Secret} {R10} {outxSlots : List Slot} {R11} {outxClaims : List Claim} {R12} {outxTrials : List Trial} {R13} {outxChain : List Hand} {R14} {outxBook : List Entry} (outxNow : Int) {R15} {done : List Bool} [H1 : EncL Qp R1 vhxFinds] [H2 : EncL Qe R2 vhxSecrets] [H3 : EncL Qm R3 vhxSlots] [H4 : EncL Qc R4 vhxClaims] [H5 : EncL Qk R5 vhxTrials] [H6 : EncL Qn R6 vhxChain] [H7 : EncL Qh R7 vhxBook] [H8 : EncL Qp R8 outxFinds] [H9 : EncL QS R9 outxSecrets] [H10 : EncL Qm R10 outxSlots] [H11 : EncL Qc R11 outxClaims] [H12 : EncL Qk R12 outxTrials] [H13 : EncL Qn R13 outxChain] [H14 : EncL Qh R14 outxBook] [H15 : EncL c_b R15 done] : CM T (n + 12) 100 [some (Ent.lst 8 R8), some (Ent.lst 3 R9), some (Ent.lst 3 R10), some (Ent.lst 5 R11), some (Ent.lst 4 R12), some (Ent.lst 5 R13), some (Ent.lst 4 R14), some (Ent.lst 1 R15)] [.agg [.i .i64 vhxNo, .imm 8 R1, .imm 3 R2, .imm 3 R3, .imm 5 R4, .imm 4 R5, .imm 5 R6, .imm 4 R7, .i .i64 vhxNow], .agg [.i .i64 outxNo, .sl 0, .sl 1, .sl 2, .sl 3, .sl 4, .sl 5, .sl 6, .i .i64 outxNow], .sl 7] = (Qap (⟨vhxNo, vhxFinds, vhxSecrets, vhxSlots, vhxClaims, vhxTrials, vhxChain, vhxBook, vhxNow⟩ : House) (⟨outxNo, outxFinds, outxSecrets, outxSlots, outxClaims, outxTrials, outxChain, outxBook, outxNow⟩ : House) done).map fun r => .tup [.agg (Z2 r.1), .b r.2] := by
 rcases H1, H2, H3, H4, H5, H6, H7, H8, H9, H10, H11, H12, H13, H14, H15 with ⟨⟨rfl⟩, ⟨rfl⟩, ⟨rfl⟩, ⟨rfl⟩, ⟨rfl⟩, ⟨rfl⟩, ⟨rfl⟩, ⟨rfl⟩, ⟨rfl⟩, ⟨rfl⟩, ⟨rfl⟩, ⟨rfl⟩, ⟨rfl⟩, ⟨rfl⟩, ⟨rfl⟩⟩
 rw [Qrt]
 simp -dsimp +contextual (maxSteps := 100000000) only [↓evA, eZ, Nat.reduceAdd, Nat.reduceMul, Nat.reduceBEq, Nat.reduceLeDiff, Nat.reduceLT, Tryz.func100, Tryz.f100, QMw, Qef, QeY, QbI]
 try simp only [Qap, eY]
 all_goals rfl
theorem Qji (n : Nat) (vhxNo : Int) {R1} {vhxFinds : List Find} {R2} {vhxSecrets : List Secret} {R3} {vhxSlots : List Slot} {R4} {vhxClaims : List Claim} {R5} {vhxTrials : List Trial} {R6} {vhxChain : List Hand} {R7} {vhxBook : List Entry} (vhxNow : Int) (a : Int) {R8} {a2 : List Bid} [H1 : EncL Qp R1 vhxFinds] [H2 : EncL Qe R2 vhxSecrets] [H3 : EncL Qm R3 vhxSlots] [H4 : EncL Qc R4 vhxClaims] [H5 : EncL Qk R5 vhxTrials] [H6 : EncL Qn R6 vhxChain] [H7 : EncL Qh R7 vhxBook] [H8 : EncL QY R8 a2] : CP T (n + 13) 44 [.agg [.i .i64 vhxNo, .imm 8 R1, .imm 3 R2, .imm 3 R3, .imm 5 R4, .imm 4 R5, .imm 5 R6, .imm 4 R7, .i .i64 vhxNow], .i .i64 a, .imm 3 R8] = (ZT (⟨vhxNo, vhxFinds, vhxSecrets, vhxSlots, vhxClaims, vhxTrials, vhxChain, vhxBook, vhxNow⟩ : House) a a2).map fun r => .tup [.agg (Z2 r.1), .b r.2] := by
 rcases H1, H2, H3, H4, H5, H6, H7, H8 with ⟨⟨rfl⟩, ⟨rfl⟩, ⟨rfl⟩, ⟨rfl⟩, ⟨rfl⟩, ⟨rfl⟩, ⟨rfl⟩, ⟨rfl⟩⟩
 rw [Qd]
 simp -dsimp +contextual (maxSteps := 100000000) only [↓evA, eZ, Nat.reduceAdd, Nat.reduceMul, Nat.reduceBEq, Nat.reduceLeDiff, Nat.reduceLT, Tryz.func44, Tryz.f44, a44, srt, QlY, Qmc, Ql3, QbI, Ql8, Qjb, Qk1, QlF]
 try simp only [ZT, eY]
 all_goals rfl
theorem QlK (n : Nat) (axId : Int) (axKind : Int) (axColour : Int) (axSize : Int) (axWorth : Int) (bxId : Int) (bxKind : Int) (bxColour : Int) (bxSize : Int) (bxWorth : Int) : CP T (n + 1) 228 [.agg [.i .i64 axId, .i .i64 axKind, .i .i64 axColour, .i .i64 axSize, .i .i64 axWorth], .agg [.i .i64 bxId, .i .i64 bxKind, .i .i64 bxColour, .i .i64 bxSize, .i .i64 bxWorth]] = (QbE (⟨axId, axKind, axColour, axSize, axWorth⟩ : Thing) (⟨bxId, bxKind, bxColour, bxSize, bxWorth⟩ : Thing)).map fun r => .b r := by
 rw [Qd]
 simp -dsimp +contextual only [↓evA, eZ, Nat.reduceAdd, Nat.reduceMul, Nat.reduceBEq, Nat.reduceLeDiff, Nat.reduceLT, Tryz.func228, Tryz.f228, a228]
 try simp only [QbE, eY]
 all_goals rfl
theorem Qmj (n : Nat) (axThingxId : Int) (axThingxKind : Int) (axThingxColour : Int) (axThingxSize : Int) (axThingxWorth : Int) (axPlace : Int) (axAt : Int) (axFinder : Int) (bxThingxId : Int) (bxThingxKind : Int) (bxThingxColour : Int) (bxThingxSize : Int) (bxThingxWorth : Int) (bxPlace : Int) (bxAt : Int) (bxFinder : Int) : CP T (n + 2) 146 [.agg [.i .i64 axThingxId, .i .i64 axThingxKind, .i .i64 axThingxColour, .i .i64 axThingxSize, .i .i64 axThingxWorth, .i .i64 axPlace, .i .i64 axAt, .i .i64 axFinder], .agg [.i .i64 bxThingxId, .i .i64 bxThingxKind, .i .i64 bxThingxColour, .i .i64 bxThingxSize, .i .i64 bxThingxWorth, .i .i64 bxPlace, .i .i64 bxAt, .i .i64 bxFinder]] = (Qcq (⟨⟨axThingxId, axThingxKind, axThingxColour, axThingxSize, axThingxWorth⟩, axPlace, axAt, axFinder⟩ : Find) (⟨⟨bxThingxId, bxThingxKind, bxThingxColour, bxThingxSize, bxThingxWorth⟩, bxPlace, bxAt, bxFinder⟩ : Find)).map fun r => .b r := by
 rw [Qd]
 simp -dsimp +contextual only [↓evA, eZ, Nat.reduceAdd, Nat.reduceMul, Nat.reduceBEq, Nat.reduceLeDiff, Nat.reduceLT, Tryz.func146, Tryz.f146, QK9, QlK]
 try simp only [Qcq, eY]
 all_goals rfl
theorem Qhe (n : Nat) {R1} {a : List Find} {R2} {b : List Find} (i : Int) [H1 : EncL Qp R1 a] [H2 : EncL Qp R2 b] : LP T (n + 3) 65 4 (frm [(0, .imm 8 R1), (1, .imm 8 R2), (5, .i .i64 i)]) [] =
  VC (run (Jz a b) i) (fun (zr : Bool) => (XE.ret, frm [(4, .b zr)], [])) (fun (zr : Unit) => (XE.exit 0, frm [], [])) := by
 rcases H1, H2 with ⟨⟨rfl⟩, ⟨rfl⟩⟩
 rw [Qr]
 simp -dsimp only [↓evA, evB, Qj, Tryz.func65, Tryz.f65, a65, TP, TZ, Nat.reduceAdd, Nat.reduceMul, Nat.reduceBEq, Nat.reduceLeDiff, Nat.reduceLT]
 refine run_map (fun (zs : Int) => (frm [(0, .imm 8 (a.map Qp)), (1, .imm 8 (b.map Qp)), (5, .i .i64 zs)], [])) (evO (fun (zr : Bool) => (XE.ret, frm [(4, .b zr)], [])) (fun (zr : Unit) => (XE.exit 0, frm [], []))) ?_ i
 intro i
 simp -dsimp +contextual only [↓evA, eZ, Nat.reduceAdd, Nat.reduceMul, Nat.reduceBEq, Nat.reduceLeDiff, Nat.reduceLT, Qmj]
 try simp only [Jz, eY]
 all_goals rfl
theorem Qlv (n : Nat) {R1} {a : List Find} {R2} {b : List Find} [H1 : EncL Qp R1 a] [H2 : EncL Qp R2 b] : CP T (n + 4) 65 [.imm 8 R1, .imm 8 R2] = (QbG a b).map fun r => .b r := by
 rcases H1, H2 with ⟨⟨rfl⟩, ⟨rfl⟩⟩
 rw [Qd]
 simp -dsimp +contextual only [↓evA, eZ, Nat.reduceAdd, Nat.reduceMul, Nat.reduceBEq, Nat.reduceLeDiff, Nat.reduceLT, Tryz.func65, Tryz.f65, a65, Qhe]
 try simp only [QbG, eY]
 all_goals rfl
theorem Ql5 (n : Nat) (axQuestion : Int) (axAnswer : Int) (bxQuestion : Int) (bxAnswer : Int) : CP T (n + 1) 139 [.agg [.i .i64 axQuestion, .i .i64 axAnswer], .agg [.i .i64 bxQuestion, .i .i64 bxAnswer]] = (Qcp (⟨axQuestion, axAnswer⟩ : Mark) (⟨bxQuestion, bxAnswer⟩ : Mark)).map fun r => .b r := by
 rw [Qd]
 simp -dsimp +contextual only [↓evA, eZ, Nat.reduceAdd, Nat.reduceMul, Nat.reduceBEq, Nat.reduceLeDiff, Nat.reduceLT, Tryz.func139, Tryz.f139, QPC]
 try simp only [Qcp, eY]
 all_goals rfl
theorem QhU (n : Nat) {R1} {a : List Mark} {R2} {b : List Mark} (i : Int) [H1 : EncL Q4 R1 a] [H2 : EncL Q4 R2 b] : LP T (n + 2) 39 4 (frm [(0, .imm 2 R1), (1, .imm 2 R2), (5, .i .i64 i)]) [] =
  VC (run (Jx a b) i) (fun (zr : Bool) => (XE.ret, frm [(4, .b zr)], [])) (fun (zr : Unit) => (XE.exit 0, frm [], [])) := by
 rcases H1, H2 with ⟨⟨rfl⟩, ⟨rfl⟩⟩
 rw [Qr]
 simp -dsimp only [↓evA, evB, Qj, Tryz.func39, Tryz.f39, a39, TP, TZ, Nat.reduceAdd, Nat.reduceMul, Nat.reduceBEq, Nat.reduceLeDiff, Nat.reduceLT]
 refine run_map (fun (zs : Int) => (frm [(0, .imm 2 (a.map Q4)), (1, .imm 2 (b.map Q4)), (5, .i .i64 zs)], [])) (evO (fun (zr : Bool) => (XE.ret, frm [(4, .b zr)], [])) (fun (zr : Unit) => (XE.exit 0, frm [], []))) ?_ i
 intro i
 simp -dsimp +contextual only [↓evA, eZ, Nat.reduceAdd, Nat.reduceMul, Nat.reduceBEq, Nat.reduceLeDiff, Nat.reduceLT, Ql5]
 try simp only [Jx, eY]
 all_goals rfl
theorem Qj9 (n : Nat) {R1} {a : List Mark} {R2} {b : List Mark} [H1 : EncL Q4 R1 a] [H2 : EncL Q4 R2 b] : CP T (n + 3) 39 [.imm 2 R1, .imm 2 R2] = (Qbx a b).map fun r => .b r := by
 rcases H1, H2 with ⟨⟨rfl⟩, ⟨rfl⟩⟩
 rw [Qd]
 simp -dsimp +contextual only [↓evA, eZ, Nat.reduceAdd, Nat.reduceMul, Nat.reduceBEq, Nat.reduceLeDiff, Nat.reduceLT, Tryz.func39, Tryz.f39, a39, QhU]
 try simp only [Qbx, eY]
 all_goals rfl
theorem Qi8 (n : Nat) (axThing : Int) {R1} {axMarks : List Mark} (axSalt : Int) (bxThing : Int) {R2} {bxMarks : List Mark} (bxSalt : Int) [H1 : EncL Q4 R1 axMarks] [H2 : EncL Q4 R2 bxMarks] : CP T (n + 4) 165 [.agg [.i .i64 axThing, .imm 2 R1, .i .i64 axSalt], .agg [.i .i64 bxThing, .imm 2 R2, .i .i64 bxSalt]] = (QaK (⟨axThing, axMarks, axSalt⟩ : Secret) (⟨bxThing, bxMarks, bxSalt⟩ : Secret)).map fun r => .b r := by
 rcases H1, H2 with ⟨⟨rfl⟩, ⟨rfl⟩⟩
 rw [Qd]
 simp -dsimp +contextual only [↓evA, eZ, Nat.reduceAdd, Nat.reduceMul, Nat.reduceBEq, Nat.reduceLeDiff, Nat.reduceLT, Tryz.func165, Tryz.f165, QQQ, Qj9]
 try simp only [QaK, eY]
 all_goals rfl
theorem QfD (n : Nat) {R1} {a : List Secret} {R2} {b : List Secret} (i : Int) [H1 : EncL Qe R1 a] [H2 : EncL Qe R2 b] : LP T (n + 5) 66 4 (frm [(0, .imm 3 R1), (1, .imm 3 R2), (5, .i .i64 i)]) [] =
  VC (run (Xo a b) i) (fun (zr : Bool) => (XE.ret, frm [(4, .b zr)], [])) (fun (zr : Unit) => (XE.exit 0, frm [], [])) := by
 rcases H1, H2 with ⟨⟨rfl⟩, ⟨rfl⟩⟩
 rw [Qr]
 simp -dsimp only [↓evA, evB, Qj, Tryz.func66, Tryz.f66, a66, TP, TZ, Nat.reduceAdd, Nat.reduceMul, Nat.reduceBEq, Nat.reduceLeDiff, Nat.reduceLT]
 refine run_map (fun (zs : Int) => (frm [(0, .imm 3 (a.map Qe)), (1, .imm 3 (b.map Qe)), (5, .i .i64 zs)], [])) (evO (fun (zr : Bool) => (XE.ret, frm [(4, .b zr)], [])) (fun (zr : Unit) => (XE.exit 0, frm [], []))) ?_ i
 intro i
 simp -dsimp +contextual only [↓evA, eZ, Nat.reduceAdd, Nat.reduceMul, Nat.reduceBEq, Nat.reduceLeDiff, Nat.reduceLT, Qi8]
 try simp only [Xo, eY]
 all_goals rfl
theorem Qig (n : Nat) {R1} {a : List Secret} {R2} {b : List Secret} [H1 : EncL Qe R1 a] [H2 : EncL Qe R2 b] : CP T (n + 6) 66 [.imm 3 R1, .imm 3 R2] = (Qae a b).map fun r => .b r := by
 rcases H1, H2 with ⟨⟨rfl⟩, ⟨rfl⟩⟩
 rw [Qd]
 simp -dsimp +contextual only [↓evA, eZ, Nat.reduceAdd, Nat.reduceMul, Nat.reduceBEq, Nat.reduceLeDiff, Nat.reduceLT, Tryz.func66, Tryz.f66, a66, QfD]
 try simp only [Qae, eY]
 all_goals rfl
theorem Ql6 (n : Nat) (axId : Int) (axSize : Int) (axThing : Int) (bxId : Int) (bxSize : Int) (bxThing : Int) : CP T (n + 1) 71 [.agg [.i .i64 axId, .i .i64 axSize, .i .i64 axThing], .agg [.i .i64 bxId, .i .i64 bxSize, .i .i64 bxThing]] = (Qcy (⟨axId, axSize, axThing⟩ : Slot) (⟨bxId, bxSize, bxThing⟩ : Slot)).map fun r => .b r := by
 rw [Qd]
 simp -dsimp +contextual only [↓evA, eZ, Nat.reduceAdd, Nat.reduceMul, Nat.reduceBEq, Nat.reduceLeDiff, Nat.reduceLT, Tryz.func71, Tryz.f71, a71]
 try simp only [Qcy, eY]
 all_goals rfl
theorem Qhl (n : Nat) {R1} {a : List Slot} {R2} {b : List Slot} (i : Int) [H1 : EncL Qm R1 a] [H2 : EncL Qm R2 b] : LP T (n + 2) 18 4 (frm [(0, .imm 3 R1), (1, .imm 3 R2), (5, .i .i64 i)]) [] =
  VC (run (Jq a b) i) (fun (zr : Bool) => (XE.ret, frm [(4, .b zr)], [])) (fun (zr : Unit) => (XE.exit 0, frm [], [])) := by
 rcases H1, H2 with ⟨⟨rfl⟩, ⟨rfl⟩⟩
 rw [Qr]
 simp -dsimp only [↓evA, evB, Qj, Tryz.func18, Tryz.f18, a18, TP, TZ, Nat.reduceAdd, Nat.reduceMul, Nat.reduceBEq, Nat.reduceLeDiff, Nat.reduceLT]
 refine run_map (fun (zs : Int) => (frm [(0, .imm 3 (a.map Qm)), (1, .imm 3 (b.map Qm)), (5, .i .i64 zs)], [])) (evO (fun (zr : Bool) => (XE.ret, frm [(4, .b zr)], [])) (fun (zr : Unit) => (XE.exit 0, frm [], []))) ?_ i
 intro i
 simp -dsimp +contextual only [↓evA, eZ, Nat.reduceAdd, Nat.reduceMul, Nat.reduceBEq, Nat.reduceLeDiff, Nat.reduceLT, Ql6]
 try simp only [Jq, eY]
 all_goals rfl
theorem Qk7 (n : Nat) {R1} {a : List Slot} {R2} {b : List Slot} [H1 : EncL Qm R1 a] [H2 : EncL Qm R2 b] : CP T (n + 3) 18 [.imm 3 R1, .imm 3 R2] = (Qb2 a b).map fun r => .b r := by
 rcases H1, H2 with ⟨⟨rfl⟩, ⟨rfl⟩⟩
 rw [Qd]
 simp -dsimp +contextual only [↓evA, eZ, Nat.reduceAdd, Nat.reduceMul, Nat.reduceBEq, Nat.reduceLeDiff, Nat.reduceLT, Tryz.func18, Tryz.f18, a18, Qhl]
 try simp only [Qb2, eY]
 all_goals rfl
theorem QkI (n : Nat) (axId : Int) (axWho : Int) (axThing : Int) (axAt : Int) (axState : Int) (bxId : Int) (bxWho : Int) (bxThing : Int) (bxAt : Int) (bxState : Int) : CP T (n + 1) 166 [.agg [.i .i64 axId, .i .i64 axWho, .i .i64 axThing, .i .i64 axAt, .i .i64 axState], .agg [.i .i64 bxId, .i .i64 bxWho, .i .i64 bxThing, .i .i64 bxAt, .i .i64 bxState]] = (QbQ (⟨axId, axWho, axThing, axAt, axState⟩ : Claim) (⟨bxId, bxWho, bxThing, bxAt, bxState⟩ : Claim)).map fun r => .b r := by
 rw [Qd]
 simp -dsimp +contextual only [↓evA, eZ, Nat.reduceAdd, Nat.reduceMul, Nat.reduceBEq, Nat.reduceLeDiff, Nat.reduceLT, Tryz.func166, Tryz.f166, QL2]
 try simp only [QbQ, eY]
 all_goals rfl
theorem QgH (n : Nat) {R1} {a : List Claim} {R2} {b : List Claim} (i : Int) [H1 : EncL Qc R1 a] [H2 : EncL Qc R2 b] : LP T (n + 2) 67 4 (frm [(0, .imm 5 R1), (1, .imm 5 R2), (5, .i .i64 i)]) [] =
  VC (run (X6 a b) i) (fun (zr : Bool) => (XE.ret, frm [(4, .b zr)], [])) (fun (zr : Unit) => (XE.exit 0, frm [], [])) := by
 rcases H1, H2 with ⟨⟨rfl⟩, ⟨rfl⟩⟩
 rw [Qr]
 simp -dsimp only [↓evA, evB, Qj, Tryz.func67, Tryz.f67, a67, TP, TZ, Nat.reduceAdd, Nat.reduceMul, Nat.reduceBEq, Nat.reduceLeDiff, Nat.reduceLT]
 refine run_map (fun (zs : Int) => (frm [(0, .imm 5 (a.map Qc)), (1, .imm 5 (b.map Qc)), (5, .i .i64 zs)], [])) (evO (fun (zr : Bool) => (XE.ret, frm [(4, .b zr)], [])) (fun (zr : Unit) => (XE.exit 0, frm [], []))) ?_ i
 intro i
 simp -dsimp +contextual only [↓evA, eZ, Nat.reduceAdd, Nat.reduceMul, Nat.reduceBEq, Nat.reduceLeDiff, Nat.reduceLT, QkI]
 try simp only [X6, eY]
 all_goals rfl
theorem Qje (n : Nat) {R1} {a : List Claim} {R2} {b : List Claim} [H1 : EncL Qc R1 a] [H2 : EncL Qc R2 b] : CP T (n + 3) 67 [.imm 5 R1, .imm 5 R2] = (QaW a b).map fun r => .b r := by
 rcases H1, H2 with ⟨⟨rfl⟩, ⟨rfl⟩⟩
 rw [Qd]
 simp -dsimp +contextual only [↓evA, eZ, Nat.reduceAdd, Nat.reduceMul, Nat.reduceBEq, Nat.reduceLeDiff, Nat.reduceLT, Tryz.func67, Tryz.f67, a67, QgH]
 try simp only [QaW, eY]
 all_goals rfl
theorem Qkm (n : Nat) (axClaim : Int) (axAsked : Int) (axRight : Int) (axWrong : Int) (bxClaim : Int) (bxAsked : Int) (bxRight : Int) (bxWrong : Int) : CP T (n + 1) 167 [.agg [.i .i64 axClaim, .i .i64 axAsked, .i .i64 axRight, .i .i64 axWrong], .agg [.i .i64 bxClaim, .i .i64 bxAsked, .i .i64 bxRight, .i .i64 bxWrong]] = (Qbn (⟨axClaim, axAsked, axRight, axWrong⟩ : Trial) (⟨bxClaim, bxAsked, bxRight, bxWrong⟩ : Trial)).map fun r => .b r := by
 rw [Qd]
 simp -dsimp +contextual only [↓evA, eZ, Nat.reduceAdd, Nat.reduceMul, Nat.reduceBEq, Nat.reduceLeDiff, Nat.reduceLT, Tryz.func167, Tryz.f167, QO4]
 try simp only [Qbn, eY]
 all_goals rfl
theorem Qgz (n : Nat) {R1} {a : List Trial} {R2} {b : List Trial} (i : Int) [H1 : EncL Qk R1 a] [H2 : EncL Qk R2 b] : LP T (n + 2) 68 4 (frm [(0, .imm 4 R1), (1, .imm 4 R2), (5, .i .i64 i)]) [] =
  VC (run (Jb a b) i) (fun (zr : Bool) => (XE.ret, frm [(4, .b zr)], [])) (fun (zr : Unit) => (XE.exit 0, frm [], [])) := by
 rcases H1, H2 with ⟨⟨rfl⟩, ⟨rfl⟩⟩
 rw [Qr]
 simp -dsimp only [↓evA, evB, Qj, Tryz.func68, Tryz.f68, a68, TP, TZ, Nat.reduceAdd, Nat.reduceMul, Nat.reduceBEq, Nat.reduceLeDiff, Nat.reduceLT]
 refine run_map (fun (zs : Int) => (frm [(0, .imm 4 (a.map Qk)), (1, .imm 4 (b.map Qk)), (5, .i .i64 zs)], [])) (evO (fun (zr : Bool) => (XE.ret, frm [(4, .b zr)], [])) (fun (zr : Unit) => (XE.exit 0, frm [], []))) ?_ i
 intro i
 simp -dsimp +contextual only [↓evA, eZ, Nat.reduceAdd, Nat.reduceMul, Nat.reduceBEq, Nat.reduceLeDiff, Nat.reduceLT, Qkm]
 try simp only [Jb, eY]
 all_goals rfl
theorem Qjo (n : Nat) {R1} {a : List Trial} {R2} {b : List Trial} [H1 : EncL Qk R1 a] [H2 : EncL Qk R2 b] : CP T (n + 3) 68 [.imm 4 R1, .imm 4 R2] = (QaM a b).map fun r => .b r := by
 rcases H1, H2 with ⟨⟨rfl⟩, ⟨rfl⟩⟩
 rw [Qd]
 simp -dsimp +contextual only [↓evA, eZ, Nat.reduceAdd, Nat.reduceMul, Nat.reduceBEq, Nat.reduceLeDiff, Nat.reduceLT, Tryz.func68, Tryz.f68, a68, Qgz]
 try simp only [QaM, eY]
 all_goals rfl
theorem Qmi (n : Nat) (axThing : Int) (axHolder : Int) (axWho : Int) (axAt : Int) (axSeal : Int) (bxThing : Int) (bxHolder : Int) (bxWho : Int) (bxAt : Int) (bxSeal : Int) : CP T (n + 1) 168 [.agg [.i .i64 axThing, .i .i64 axHolder, .i .i64 axWho, .i .i64 axAt, .i .i64 axSeal], .agg [.i .i64 bxThing, .i .i64 bxHolder, .i .i64 bxWho, .i .i64 bxAt, .i .i64 bxSeal]] = (Qcw (⟨axThing, axHolder, axWho, axAt, axSeal⟩ : Hand) (⟨bxThing, bxHolder, bxWho, bxAt, bxSeal⟩ : Hand)).map fun r => .b r := by
 rw [Qd]
 simp -dsimp +contextual only [↓evA, eZ, Nat.reduceAdd, Nat.reduceMul, Nat.reduceBEq, Nat.reduceLeDiff, Nat.reduceLT, Tryz.func168, Tryz.f168, QO5]
 try simp only [Qcw, eY]
 all_goals rfl
theorem Qhg (n : Nat) {R1} {a : List Hand} {R2} {b : List Hand} (i : Int) [H1 : EncL Qn R1 a] [H2 : EncL Qn R2 b] : LP T (n + 2) 69 4 (frm [(0, .imm 5 R1), (1, .imm 5 R2), (5, .i .i64 i)]) [] =
  VC (run (Jo a b) i) (fun (zr : Bool) => (XE.ret, frm [(4, .b zr)], [])) (fun (zr : Unit) => (XE.exit 0, frm [], [])) := by
 rcases H1, H2 with ⟨⟨rfl⟩, ⟨rfl⟩⟩
 rw [Qr]
 simp -dsimp only [↓evA, evB, Qj, Tryz.func69, Tryz.f69, a69, TP, TZ, Nat.reduceAdd, Nat.reduceMul, Nat.reduceBEq, Nat.reduceLeDiff, Nat.reduceLT]
 refine run_map (fun (zs : Int) => (frm [(0, .imm 5 (a.map Qn)), (1, .imm 5 (b.map Qn)), (5, .i .i64 zs)], [])) (evO (fun (zr : Bool) => (XE.ret, frm [(4, .b zr)], [])) (fun (zr : Unit) => (XE.exit 0, frm [], []))) ?_ i
 intro i
 simp -dsimp +contextual only [↓evA, eZ, Nat.reduceAdd, Nat.reduceMul, Nat.reduceBEq, Nat.reduceLeDiff, Nat.reduceLT, Qmi]
 try simp only [Jo, eY]
 all_goals rfl
theorem Qlm (n : Nat) {R1} {a : List Hand} {R2} {b : List Hand} [H1 : EncL Qn R1 a] [H2 : EncL Qn R2 b] : CP T (n + 3) 69 [.imm 5 R1, .imm 5 R2] = (QbN a b).map fun r => .b r := by
 rcases H1, H2 with ⟨⟨rfl⟩, ⟨rfl⟩⟩
 rw [Qd]
 simp -dsimp +contextual only [↓evA, eZ, Nat.reduceAdd, Nat.reduceMul, Nat.reduceBEq, Nat.reduceLeDiff, Nat.reduceLT, Tryz.func69, Tryz.f69, a69, Qhg]
 try simp only [QbN, eY]
 all_goals rfl
theorem QlM (n : Nat) (axFrom : Int) (axTo : Int) (axCents : Int) (axAt : Int) (bxFrom : Int) (bxTo : Int) (bxCents : Int) (bxAt : Int) : CP T (n + 1) 169 [.agg [.i .i64 axFrom, .i .i64 axTo, .i .i64 axCents, .i .i64 axAt], .agg [.i .i64 bxFrom, .i .i64 bxTo, .i .i64 bxCents, .i .i64 bxAt]] = (QbZ (⟨axFrom, axTo, axCents, axAt⟩ : Entry) (⟨bxFrom, bxTo, bxCents, bxAt⟩ : Entry)).map fun r => .b r := by
 rw [Qd]
 simp -dsimp +contextual only [↓evA, eZ, Nat.reduceAdd, Nat.reduceMul, Nat.reduceBEq, Nat.reduceLeDiff, Nat.reduceLT, Tryz.func169, Tryz.f169, QNa]
 try simp only [QbZ, eY]
 all_goals rfl
theorem Qgb (n : Nat) {R1} {a : List Entry} {R2} {b : List Entry} (i : Int) [H1 : EncL Qh R1 a] [H2 : EncL Qh R2 b] : LP T (n + 2) 70 4 (frm [(0, .imm 4 R1), (1, .imm 4 R2), (5, .i .i64 i)]) [] =
  VC (run (X5 a b) i) (fun (zr : Bool) => (XE.ret, frm [(4, .b zr)], [])) (fun (zr : Unit) => (XE.exit 0, frm [], [])) := by
 rcases H1, H2 with ⟨⟨rfl⟩, ⟨rfl⟩⟩
 rw [Qr]
 simp -dsimp only [↓evA, evB, Qj, Tryz.func70, Tryz.f70, a70, TP, TZ, Nat.reduceAdd, Nat.reduceMul, Nat.reduceBEq, Nat.reduceLeDiff, Nat.reduceLT]
 refine run_map (fun (zs : Int) => (frm [(0, .imm 4 (a.map Qh)), (1, .imm 4 (b.map Qh)), (5, .i .i64 zs)], [])) (evO (fun (zr : Bool) => (XE.ret, frm [(4, .b zr)], [])) (fun (zr : Unit) => (XE.exit 0, frm [], []))) ?_ i
 intro i
 simp -dsimp +contextual only [↓evA, eZ, Nat.reduceAdd, Nat.reduceMul, Nat.reduceBEq, Nat.reduceLeDiff, Nat.reduceLT, QlM]
 try simp only [X5, eY]
 all_goals rfl
theorem Qja (n : Nat) {R1} {a : List Entry} {R2} {b : List Entry} [H1 : EncL Qh R1 a] [H2 : EncL Qh R2 b] : CP T (n + 3) 70 [.imm 4 R1, .imm 4 R2] = (QaR a b).map fun r => .b r := by
 rcases H1, H2 with ⟨⟨rfl⟩, ⟨rfl⟩⟩
 rw [Qd]
 simp -dsimp +contextual only [↓evA, eZ, Nat.reduceAdd, Nat.reduceMul, Nat.reduceBEq, Nat.reduceLeDiff, Nat.reduceLT, Tryz.func70, Tryz.f70, a70, Qgb]
 try simp only [QaR, eY]
 all_goals rfl
theorem QjW (n : Nat) (axNo : Int) {R1} {axFinds : List Find} {R2} {axSecrets : List Secret} {R3} {axSlots : List Slot} {R4} {axClaims : List Claim} {R5} {axTrials : List Trial} {R6} {axChain : List Hand} {R7} {axBook : List Entry} (axNow : Int) (bxNo : Int) {R8} {bxFinds : List Find} {R9} {bxSecrets : List Secret} {R10} {bxSlots : List Slot} {R11} {bxClaims : List Claim} {R12} {bxTrials : List Trial} {R13} {bxChain : List Hand} {R14} {bxBook : List Entry} (bxNow : Int) [H1 : EncL Qp R1 axFinds] [H2 : EncL Qe R2 axSecrets] [H3 : EncL Qm R3 axSlots] [H4 : EncL Qc R4 axClaims] [H5 : EncL Qk R5 axTrials] [H6 : EncL Qn R6 axChain] [H7 : EncL Qh R7 axBook] [H8 : EncL Qp R8 bxFinds] [H9 : EncL Qe R9 bxSecrets] [H10 : EncL Qm R10 bxSlots] [H11 : EncL Qc R11 bxClaims] [H12 : EncL Qk R12 bxTrials] [H13 : EncL Qn R13 bxChain] [H14 : EncL Qh R14 bxBook] : CP T (n + 7) 17 [.agg [.i .i64 axNo, .imm 8 R1, .imm 3 R2, .imm 3 R3, .imm 5 R4, .imm 4 R5, .imm 5 R6, .imm 4 R7, .i .i64 axNow], .agg [.i .i64 bxNo, .imm 8 R8, .imm 3 R9, .imm 3 R10, .imm 5 R11, .imm 4 R12, .imm 5 R13, .imm 4 R14, .i .i64 bxNow]] = (JH (⟨axNo, axFinds, axSecrets, axSlots, axClaims, axTrials, axChain, axBook, axNow⟩ : House) (⟨bxNo, bxFinds, bxSecrets, bxSlots, bxClaims, bxTrials, bxChain, bxBook, bxNow⟩ : House)).map fun r => .b r := by
 rcases H1, H2, H3, H4, H5, H6, H7, H8, H9, H10, H11, H12, H13, H14 with ⟨⟨rfl⟩, ⟨rfl⟩, ⟨rfl⟩, ⟨rfl⟩, ⟨rfl⟩, ⟨rfl⟩, ⟨rfl⟩, ⟨rfl⟩, ⟨rfl⟩, ⟨rfl⟩, ⟨rfl⟩, ⟨rfl⟩, ⟨rfl⟩, ⟨rfl⟩⟩
 rw [Qd]
 simp -dsimp +contextual (maxSteps := 100000000) only [↓evA, eZ, Nat.reduceAdd, Nat.reduceMul, Nat.reduceBEq, Nat.reduceLeDiff, Nat.reduceLT, Tryz.func17, Tryz.f17, a17, Qlv, Qig, Qk7, Qje, Qjo, Qlm, Qja]
 try simp only [JH, eY]
 all_goals rfl
theorem Qnc (n : Nat) (axWho : Int) (axCents : Int) (axSeal : Int) (bxWho : Int) (bxCents : Int) (bxSeal : Int) : CP T (n + 1) 145 [.agg [.i .i64 axWho, .i .i64 axCents, .i .i64 axSeal], .agg [.i .i64 bxWho, .i .i64 bxCents, .i .i64 bxSeal]] = (Qc3 (⟨axWho, axCents, axSeal⟩ : Bid) (⟨bxWho, bxCents, bxSeal⟩ : Bid)).map fun r => .b r := by
 rw [Qd]
 simp -dsimp +contextual only [↓evA, eZ, Nat.reduceAdd, Nat.reduceMul, Nat.reduceBEq, Nat.reduceLeDiff, Nat.reduceLT, Tryz.func145, Tryz.f145, QN6]
 try simp only [Qc3, eY]
 all_goals rfl
theorem Qh8 (n : Nat) {R1} {a : List Bid} {R2} {b : List Bid} (i : Int) [H1 : EncL QY R1 a] [H2 : EncL QY R2 b] : LP T (n + 2) 45 4 (frm [(0, .imm 3 R1), (1, .imm 3 R2), (5, .i .i64 i)]) [] =
  VC (run (J3 a b) i) (fun (zr : Bool) => (XE.ret, frm [(4, .b zr)], [])) (fun (zr : Unit) => (XE.exit 0, frm [], [])) := by
 rcases H1, H2 with ⟨⟨rfl⟩, ⟨rfl⟩⟩
 rw [Qr]
 simp -dsimp only [↓evA, evB, Qj, Tryz.func45, Tryz.f45, a45, TP, TZ, Nat.reduceAdd, Nat.reduceMul, Nat.reduceBEq, Nat.reduceLeDiff, Nat.reduceLT]
 refine run_map (fun (zs : Int) => (frm [(0, .imm 3 (a.map QY)), (1, .imm 3 (b.map QY)), (5, .i .i64 zs)], [])) (evO (fun (zr : Bool) => (XE.ret, frm [(4, .b zr)], [])) (fun (zr : Unit) => (XE.exit 0, frm [], []))) ?_ i
 intro i
 simp -dsimp +contextual only [↓evA, eZ, Nat.reduceAdd, Nat.reduceMul, Nat.reduceBEq, Nat.reduceLeDiff, Nat.reduceLT, Qnc]
 try simp only [J3, eY]
 all_goals rfl
theorem Qmh (n : Nat) {R1} {a : List Bid} {R2} {b : List Bid} [H1 : EncL QY R1 a] [H2 : EncL QY R2 b] : CP T (n + 3) 45 [.imm 3 R1, .imm 3 R2] = (QcC a b).map fun r => .b r := by
 rcases H1, H2 with ⟨⟨rfl⟩, ⟨rfl⟩⟩
 rw [Qd]
 simp -dsimp +contextual only [↓evA, eZ, Nat.reduceAdd, Nat.reduceMul, Nat.reduceBEq, Nat.reduceLeDiff, Nat.reduceLT, Tryz.func45, Tryz.f45, a45, Qh8]
 try simp only [QcC, eY]
 all_goals rfl
theorem QfR (n : Nat) {R1} {a : List Find} (t1 : Int) (t5 : Int) [H1 : EncL Qp R1 a] : LP T (n + 1) 72 2 (frm [(0, .sl 0), (1, .i .i64 t1), (5, .i .i64 t5)]) [some (Ent.lst 8 R1)] =
  (run XA (a, t1, t5)).map (fun (zr : (List Find) × Int) => (XE.exit 0, frm [(0, .sl 0), (1, .i .i64 zr.2)], [some (Ent.lst 8 (zr.1.map Qp))])) := by
 obtain ⟨rfl⟩ := H1
 rw [Qr]
 simp -dsimp only [↓evA, evB, Qj, Tryz.func72, Tryz.f72, a72, TP, TZ, Nat.reduceAdd, Nat.reduceMul, Nat.reduceBEq, Nat.reduceLeDiff, Nat.reduceLT]
 refine run_map (fun (zs : (List Find) × Int × Int) => (frm [(0, .sl 0), (1, .i .i64 zs.2.1), (5, .i .i64 zs.2.2)], [some (Ent.lst 8 (zs.1.map Qp))])) (fun (zr : (List Find) × Int) => (XE.exit 0, frm [(0, .sl 0), (1, .i .i64 zr.2)], [some (Ent.lst 8 (zr.1.map Qp))])) ?_ (a, t1, t5)
 rintro ⟨a, t1, t5⟩
 simp -dsimp +contextual only [↓evA, eZ, Nat.reduceAdd, Nat.reduceMul, Nat.reduceBEq, Nat.reduceLeDiff, Nat.reduceLT]
 try simp only [XA, eY]
 all_goals rfl
theorem Qih (n : Nat) {R1} {a : List Find} (a2 : Int) [H1 : EncL Qp R1 a] : CA T (n + 2) 72 [some (Ent.lst 8 R1)] [.sl 0, .i .i64 a2] = (Qaa a a2).map fun r => (.i .i64 r.2, [some (Ent.lst 8 (r.1.map Qp))]) := by
 obtain ⟨rfl⟩ := H1
 rw [QdU]
 simp -dsimp +contextual only [↓evA, eZ, Nat.reduceAdd, Nat.reduceMul, Nat.reduceBEq, Nat.reduceLeDiff, Nat.reduceLT, Tryz.func72, Tryz.f72, a72, QfR]
 try simp only [Qaa, eY]
 all_goals rfl
theorem QfK (n : Nat) {R1} {a : List Mark} (k : Int) (i : Int) [H1 : EncL Q4 R1 a] : LP T (n + 1) 40 2 (frm [(0, .sl 0), (1, .i .i64 k), (5, .i .i64 i)]) [some (Ent.lst 2 R1)] =
  (run Xy (a, k, i)).map (fun (zr : (List Mark) × Int) => (XE.exit 0, frm [(0, .sl 0), (1, .i .i64 zr.2)], [some (Ent.lst 2 (zr.1.map Q4))])) := by
 obtain ⟨rfl⟩ := H1
 rw [Qr]
 simp -dsimp only [↓evA, evB, Qj, Tryz.func40, Tryz.f40, a40, TP, TZ, Nat.reduceAdd, Nat.reduceMul, Nat.reduceBEq, Nat.reduceLeDiff, Nat.reduceLT]
 refine run_map (fun (zs : (List Mark) × Int × Int) => (frm [(0, .sl 0), (1, .i .i64 zs.2.1), (5, .i .i64 zs.2.2)], [some (Ent.lst 2 (zs.1.map Q4))])) (fun (zr : (List Mark) × Int) => (XE.exit 0, frm [(0, .sl 0), (1, .i .i64 zr.2)], [some (Ent.lst 2 (zr.1.map Q4))])) ?_ (a, k, i)
 rintro ⟨a, k, i⟩
 simp -dsimp +contextual only [↓evA, eZ, Nat.reduceAdd, Nat.reduceMul, Nat.reduceBEq, Nat.reduceLeDiff, Nat.reduceLT]
 try simp only [Xy, eY]
 all_goals rfl
theorem QiF (n : Nat) {R1} {a : List Mark} (k : Int) [H1 : EncL Q4 R1 a] : CA T (n + 2) 40 [some (Ent.lst 2 R1)] [.sl 0, .i .i64 k] = (Qac a k).map fun r => (.i .i64 r.2, [some (Ent.lst 2 (r.1.map Q4))]) := by
 obtain ⟨rfl⟩ := H1
 rw [QdU]
 simp -dsimp +contextual only [↓evA, eZ, Nat.reduceAdd, Nat.reduceMul, Nat.reduceBEq, Nat.reduceLeDiff, Nat.reduceLT, Tryz.func40, Tryz.f40, a40, QfK]
 try simp only [Qac, eY]
 all_goals rfl
theorem Qev (n : Nat) {R1} {a : List Secret} (k : Int) (i : Int) [H1 : EncL QS R1 a] : LP T (n + 3) 73 2 (frm [(0, .sl 0), (1, .i .i64 k), (5, .i .i64 i)]) [some (Ent.lst 3 R1)] =
  (run VM (a, k, i)).map (fun (zr : (List Secret) × Int) => (XE.exit 0, frm [(0, .sl 0), (1, .i .i64 zr.2)], [some (Ent.lst 3 (zr.1.map QS))])) := by
 obtain ⟨rfl⟩ := H1
 rw [Qr]
 simp -dsimp only [↓evA, evB, Qj, Tryz.func73, Tryz.f73, a73, TP, TZ, Nat.reduceAdd, Nat.reduceMul, Nat.reduceBEq, Nat.reduceLeDiff, Nat.reduceLT]
 refine run_map (fun (zs : (List Secret) × Int × Int) => (frm [(0, .sl 0), (1, .i .i64 zs.2.1), (5, .i .i64 zs.2.2)], [some (Ent.lst 3 (zs.1.map QS))])) (fun (zr : (List Secret) × Int) => (XE.exit 0, frm [(0, .sl 0), (1, .i .i64 zr.2)], [some (Ent.lst 3 (zr.1.map QS))])) ?_ (a, k, i)
 rintro ⟨a, k, i⟩
 simp -dsimp +contextual only [↓evA, eZ, Nat.reduceAdd, Nat.reduceMul, Nat.reduceBEq, Nat.reduceLeDiff, Nat.reduceLT, srt, QiF]
 try simp only [VM, eY]
 all_goals rfl
theorem QgG (n : Nat) {R1} {a : List Secret} (k : Int) [H1 : EncL QS R1 a] : CA T (n + 4) 73 [some (Ent.lst 3 R1)] [.sl 0, .i .i64 k] = (J5 a k).map fun r => (.i .i64 r.2, [some (Ent.lst 3 (r.1.map QS))]) := by
 obtain ⟨rfl⟩ := H1
 rw [QdU]
 simp -dsimp +contextual only [↓evA, eZ, Nat.reduceAdd, Nat.reduceMul, Nat.reduceBEq, Nat.reduceLeDiff, Nat.reduceLT, Tryz.func73, Tryz.f73, a73, srt, Qev]
 try simp only [J5, eY]
 all_goals rfl
theorem QfV (n : Nat) {R1} {a : List Slot} (k : Int) (i : Int) [H1 : EncL Qm R1 a] : LP T (n + 1) 19 2 (frm [(0, .sl 0), (1, .i .i64 k), (5, .i .i64 i)]) [some (Ent.lst 3 R1)] =
  (run XB (a, k, i)).map (fun (zr : (List Slot) × Int) => (XE.exit 0, frm [(0, .sl 0), (1, .i .i64 zr.2)], [some (Ent.lst 3 (zr.1.map Qm))])) := by
 obtain ⟨rfl⟩ := H1
 rw [Qr]
 simp -dsimp only [↓evA, evB, Qj, Tryz.func19, Tryz.f19, a19, TP, TZ, Nat.reduceAdd, Nat.reduceMul, Nat.reduceBEq, Nat.reduceLeDiff, Nat.reduceLT]
 refine run_map (fun (zs : (List Slot) × Int × Int) => (frm [(0, .sl 0), (1, .i .i64 zs.2.1), (5, .i .i64 zs.2.2)], [some (Ent.lst 3 (zs.1.map Qm))])) (fun (zr : (List Slot) × Int) => (XE.exit 0, frm [(0, .sl 0), (1, .i .i64 zr.2)], [some (Ent.lst 3 (zr.1.map Qm))])) ?_ (a, k, i)
 rintro ⟨a, k, i⟩
 simp -dsimp +contextual only [↓evA, eZ, Nat.reduceAdd, Nat.reduceMul, Nat.reduceBEq, Nat.reduceLeDiff, Nat.reduceLT]
 try simp only [XB, eY]
 all_goals rfl
theorem Qie (n : Nat) {R1} {a : List Slot} (k : Int) [H1 : EncL Qm R1 a] : CA T (n + 2) 19 [some (Ent.lst 3 R1)] [.sl 0, .i .i64 k] = (Qak a k).map fun r => (.i .i64 r.2, [some (Ent.lst 3 (r.1.map Qm))]) := by
 obtain ⟨rfl⟩ := H1
 rw [QdU]
 simp -dsimp +contextual only [↓evA, eZ, Nat.reduceAdd, Nat.reduceMul, Nat.reduceBEq, Nat.reduceLeDiff, Nat.reduceLT, Tryz.func19, Tryz.f19, a19, QfV]
 try simp only [Qak, eY]
 all_goals rfl
theorem Qe1 (n : Nat) {R1} {a : List Claim} (k : Int) (i : Int) [H1 : EncL Qc R1 a] : LP T (n + 1) 74 2 (frm [(0, .sl 0), (1, .i .i64 k), (5, .i .i64 i)]) [some (Ent.lst 5 R1)] =
  (run V8 (a, k, i)).map (fun (zr : (List Claim) × Int) => (XE.exit 0, frm [(0, .sl 0), (1, .i .i64 zr.2)], [some (Ent.lst 5 (zr.1.map Qc))])) := by
 obtain ⟨rfl⟩ := H1
 rw [Qr]
 simp -dsimp only [↓evA, evB, Qj, Tryz.func74, Tryz.f74, a74, TP, TZ, Nat.reduceAdd, Nat.reduceMul, Nat.reduceBEq, Nat.reduceLeDiff, Nat.reduceLT]
 refine run_map (fun (zs : (List Claim) × Int × Int) => (frm [(0, .sl 0), (1, .i .i64 zs.2.1), (5, .i .i64 zs.2.2)], [some (Ent.lst 5 (zs.1.map Qc))])) (fun (zr : (List Claim) × Int) => (XE.exit 0, frm [(0, .sl 0), (1, .i .i64 zr.2)], [some (Ent.lst 5 (zr.1.map Qc))])) ?_ (a, k, i)
 rintro ⟨a, k, i⟩
 simp -dsimp +contextual only [↓evA, eZ, Nat.reduceAdd, Nat.reduceMul, Nat.reduceBEq, Nat.reduceLeDiff, Nat.reduceLT]
 try simp only [V8, eY]
 all_goals rfl
theorem Qhs (n : Nat) {R1} {a : List Claim} (k : Int) [H1 : EncL Qc R1 a] : CA T (n + 2) 74 [some (Ent.lst 5 R1)] [.sl 0, .i .i64 k] = (ZE a k).map fun r => (.i .i64 r.2, [some (Ent.lst 5 (r.1.map Qc))]) := by
 obtain ⟨rfl⟩ := H1
 rw [QdU]
 simp -dsimp +contextual only [↓evA, eZ, Nat.reduceAdd, Nat.reduceMul, Nat.reduceBEq, Nat.reduceLeDiff, Nat.reduceLT, Tryz.func74, Tryz.f74, a74, Qe1]
 try simp only [ZE, eY]
 all_goals rfl
theorem QeW (n : Nat) {R1} {a : List Trial} (k : Int) (i : Int) [H1 : EncL Qk R1 a] : LP T (n + 1) 75 2 (frm [(0, .sl 0), (1, .i .i64 k), (5, .i .i64 i)]) [some (Ent.lst 4 R1)] =
  (run V4 (a, k, i)).map (fun (zr : (List Trial) × Int) => (XE.exit 0, frm [(0, .sl 0), (1, .i .i64 zr.2)], [some (Ent.lst 4 (zr.1.map Qk))])) := by
 obtain ⟨rfl⟩ := H1
 rw [Qr]
 simp -dsimp only [↓evA, evB, Qj, Tryz.func75, Tryz.f75, a75, TP, TZ, Nat.reduceAdd, Nat.reduceMul, Nat.reduceBEq, Nat.reduceLeDiff, Nat.reduceLT]
 refine run_map (fun (zs : (List Trial) × Int × Int) => (frm [(0, .sl 0), (1, .i .i64 zs.2.1), (5, .i .i64 zs.2.2)], [some (Ent.lst 4 (zs.1.map Qk))])) (fun (zr : (List Trial) × Int) => (XE.exit 0, frm [(0, .sl 0), (1, .i .i64 zr.2)], [some (Ent.lst 4 (zr.1.map Qk))])) ?_ (a, k, i)
 rintro ⟨a, k, i⟩
 simp -dsimp +contextual only [↓evA, eZ, Nat.reduceAdd, Nat.reduceMul, Nat.reduceBEq, Nat.reduceLeDiff, Nat.reduceLT]
 try simp only [V4, eY]
 all_goals rfl
theorem QhE (n : Nat) {R1} {a : List Trial} (k : Int) [H1 : EncL Qk R1 a] : CA T (n + 2) 75 [some (Ent.lst 4 R1)] [.sl 0, .i .i64 k] = (ZK a k).map fun r => (.i .i64 r.2, [some (Ent.lst 4 (r.1.map Qk))]) := by
 obtain ⟨rfl⟩ := H1
 rw [QdU]
 simp -dsimp +contextual only [↓evA, eZ, Nat.reduceAdd, Nat.reduceMul, Nat.reduceBEq, Nat.reduceLeDiff, Nat.reduceLT, Tryz.func75, Tryz.f75, a75, QeW]
 try simp only [ZK, eY]
 all_goals rfl
theorem QfX (n : Nat) {R1} {a : List Hand} (k : Int) (i : Int) [H1 : EncL Qn R1 a] : LP T (n + 1) 76 2 (frm [(0, .sl 0), (1, .i .i64 k), (5, .i .i64 i)]) [some (Ent.lst 5 R1)] =
  (run Xp (a, k, i)).map (fun (zr : (List Hand) × Int) => (XE.exit 0, frm [(0, .sl 0), (1, .i .i64 zr.2)], [some (Ent.lst 5 (zr.1.map Qn))])) := by
 obtain ⟨rfl⟩ := H1
 rw [Qr]
 simp -dsimp only [↓evA, evB, Qj, Tryz.func76, Tryz.f76, a76, TP, TZ, Nat.reduceAdd, Nat.reduceMul, Nat.reduceBEq, Nat.reduceLeDiff, Nat.reduceLT]
 refine run_map (fun (zs : (List Hand) × Int × Int) => (frm [(0, .sl 0), (1, .i .i64 zs.2.1), (5, .i .i64 zs.2.2)], [some (Ent.lst 5 (zs.1.map Qn))])) (fun (zr : (List Hand) × Int) => (XE.exit 0, frm [(0, .sl 0), (1, .i .i64 zr.2)], [some (Ent.lst 5 (zr.1.map Qn))])) ?_ (a, k, i)
 rintro ⟨a, k, i⟩
 simp -dsimp +contextual only [↓evA, eZ, Nat.reduceAdd, Nat.reduceMul, Nat.reduceBEq, Nat.reduceLeDiff, Nat.reduceLT]
 try simp only [Xp, eY]
 all_goals rfl
theorem Qiv (n : Nat) {R1} {a : List Hand} (k : Int) [H1 : EncL Qn R1 a] : CA T (n + 2) 76 [some (Ent.lst 5 R1)] [.sl 0, .i .i64 k] = (Qad a k).map fun r => (.i .i64 r.2, [some (Ent.lst 5 (r.1.map Qn))]) := by
 obtain ⟨rfl⟩ := H1
 rw [QdU]
 simp -dsimp +contextual only [↓evA, eZ, Nat.reduceAdd, Nat.reduceMul, Nat.reduceBEq, Nat.reduceLeDiff, Nat.reduceLT, Tryz.func76, Tryz.f76, a76, QfX]
 try simp only [Qad, eY]
 all_goals rfl
theorem QeM (n : Nat) {R1} {a : List Entry} (k : Int) (i : Int) [H1 : EncL Qh R1 a] : LP T (n + 1) 77 2 (frm [(0, .sl 0), (1, .i .i64 k), (5, .i .i64 i)]) [some (Ent.lst 4 R1)] =
  (run VY (a, k, i)).map (fun (zr : (List Entry) × Int) => (XE.exit 0, frm [(0, .sl 0), (1, .i .i64 zr.2)], [some (Ent.lst 4 (zr.1.map Qh))])) := by
 obtain ⟨rfl⟩ := H1
 rw [Qr]
 simp -dsimp only [↓evA, evB, Qj, Tryz.func77, Tryz.f77, a77, TP, TZ, Nat.reduceAdd, Nat.reduceMul, Nat.reduceBEq, Nat.reduceLeDiff, Nat.reduceLT]
 refine run_map (fun (zs : (List Entry) × Int × Int) => (frm [(0, .sl 0), (1, .i .i64 zs.2.1), (5, .i .i64 zs.2.2)], [some (Ent.lst 4 (zs.1.map Qh))])) (fun (zr : (List Entry) × Int) => (XE.exit 0, frm [(0, .sl 0), (1, .i .i64 zr.2)], [some (Ent.lst 4 (zr.1.map Qh))])) ?_ (a, k, i)
 rintro ⟨a, k, i⟩
 simp -dsimp +contextual only [↓evA, eZ, Nat.reduceAdd, Nat.reduceMul, Nat.reduceBEq, Nat.reduceLeDiff, Nat.reduceLT]
 try simp only [VY, eY]
 all_goals rfl
end Go.Proofs.YtcdffihcfeajfaaGreat
