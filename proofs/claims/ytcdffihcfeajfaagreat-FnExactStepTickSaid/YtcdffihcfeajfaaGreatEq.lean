/- The functions of the program come to the typed ones. No condition. -/
import Derived.Test.YtcdffihcfeajfaaGreatEq3
namespace Go.Proofs.YtcdffihcfeajfaaGreat
open Go Go.Proofs Go.Proofs.YtcdffihcfeajfaaGreat.Am
set_option linter.unusedVariables false
set_option linter.unusedSimpArgs false
set_option linter.defProp false
set_option maxRecDepth 100000
theorem e_laws_heldFindS (n : Nat) {R1} {a : List Find} (a2 : Int) [H1 : EncL cFind R1 a] : CP T (n + 2) 78 [.imm 8 R1, .i .i64 a2] = (laws_heldFindS a a2).map fun r => .i .i64 r := by
  obtain ⟨rfl⟩ := H1
  rw [CP_eq]
  simp -dsimp +contextual only [↓evA, evB, evT, tys, encs, Nat.reduceAdd, Nat.reduceMul, Nat.reduceBEq, Nat.reduceLeDiff, Nat.reduceLT, Tryz.func78, Tryz.f78, a78, TP, TZ, orc_p, orc_l, orc_a, orc_m, e_laws_heldFindS_l2]
  try simp only [laws_heldFindS, evT, encs, c_js, r_map_some, e_need_t]
  all_goals rfl
theorem e_laws_heldMarkS_l2 (n : Nat) {R1} {a : List Mark} (k : Int) (i : Int) [H1 : EncL cMark R1 a] : LP T (n + 1) 170 2 (frm [(0, .imm 2 R1), (1, .i .i64 k), (5, .i .i64 i)]) [] =
    lmap (run (laws_heldMarkS_l2 a) (k, i)) (fun (zr : Int) => (XE.ret, frm [(4, .i .i64 zr)], [])) (fun (zr : Int) => (XE.exit 0, frm [(1, .i .i64 zr)], [])) := by
  obtain ⟨rfl⟩ := H1
  rw [LP_eq]
  simp -dsimp only [↓evA, evB, lpG_eq, Tryz.func170, Tryz.f170, a170, TP, TZ, Nat.reduceAdd, Nat.reduceMul, Nat.reduceBEq, Nat.reduceLeDiff, Nat.reduceLT]
  refine run_map (fun (zs : Int × Int) => (frm [(0, .imm 2 (a.map cMark)), (1, .i .i64 zs.1), (5, .i .i64 zs.2)], [])) (evO (fun (zr : Int) => (XE.ret, frm [(4, .i .i64 zr)], [])) (fun (zr : Int) => (XE.exit 0, frm [(1, .i .i64 zr)], []))) ?_ (k, i)
  rintro ⟨k, i⟩
  simp -dsimp +contextual only [↓evA, evB, evT, tys, encs, Nat.reduceAdd, Nat.reduceMul, Nat.reduceBEq, Nat.reduceLeDiff, Nat.reduceLT, TP, TZ, orc_p, orc_l, orc_a, orc_m]
  try simp only [laws_heldMarkS_l2, evT, encs, c_js, r_map_some, e_need_t]
  all_goals rfl
theorem e_laws_heldMarkS (n : Nat) {R1} {a : List Mark} (k : Int) [H1 : EncL cMark R1 a] : CP T (n + 2) 170 [.imm 2 R1, .i .i64 k] = (laws_heldMarkS a k).map fun r => .i .i64 r := by
  obtain ⟨rfl⟩ := H1
  rw [CP_eq]
  simp -dsimp +contextual only [↓evA, evB, evT, tys, encs, Nat.reduceAdd, Nat.reduceMul, Nat.reduceBEq, Nat.reduceLeDiff, Nat.reduceLT, Tryz.func170, Tryz.f170, a170, TP, TZ, orc_p, orc_l, orc_a, orc_m, e_laws_heldMarkS_l2]
  try simp only [laws_heldMarkS, evT, encs, c_js, r_map_some, e_need_t]
  all_goals rfl
theorem e_laws_heldSecretS_l2 (n : Nat) {R1} {a : List Secret} (k : Int) (i : Int) [H1 : EncL cSecret R1 a] : LP T (n + 3) 79 2 (frm [(0, .imm 3 R1), (1, .i .i64 k), (5, .i .i64 i)]) [] =
    lmap (run (laws_heldSecretS_l2 a) (k, i)) (fun (zr : Int) => (XE.ret, frm [(4, .i .i64 zr)], [])) (fun (zr : Int) => (XE.exit 0, frm [(1, .i .i64 zr)], [])) := by
  obtain ⟨rfl⟩ := H1
  rw [LP_eq]
  simp -dsimp only [↓evA, evB, lpG_eq, Tryz.func79, Tryz.f79, a79, TP, TZ, Nat.reduceAdd, Nat.reduceMul, Nat.reduceBEq, Nat.reduceLeDiff, Nat.reduceLT]
  refine run_map (fun (zs : Int × Int) => (frm [(0, .imm 3 (a.map cSecret)), (1, .i .i64 zs.1), (5, .i .i64 zs.2)], [])) (evO (fun (zr : Int) => (XE.ret, frm [(4, .i .i64 zr)], [])) (fun (zr : Int) => (XE.exit 0, frm [(1, .i .i64 zr)], []))) ?_ (k, i)
  rintro ⟨k, i⟩
  simp -dsimp +contextual only [↓evA, evB, evT, tys, encs, Nat.reduceAdd, Nat.reduceMul, Nat.reduceBEq, Nat.reduceLeDiff, Nat.reduceLT, TP, TZ, orc_p, orc_l, orc_a, orc_m, e_laws_heldMarkS]
  try simp only [laws_heldSecretS_l2, evT, encs, c_js, r_map_some, e_need_t]
  all_goals rfl
theorem e_laws_heldSecretS (n : Nat) {R1} {a : List Secret} (k : Int) [H1 : EncL cSecret R1 a] : CP T (n + 4) 79 [.imm 3 R1, .i .i64 k] = (laws_heldSecretS a k).map fun r => .i .i64 r := by
  obtain ⟨rfl⟩ := H1
  rw [CP_eq]
  simp -dsimp +contextual only [↓evA, evB, evT, tys, encs, Nat.reduceAdd, Nat.reduceMul, Nat.reduceBEq, Nat.reduceLeDiff, Nat.reduceLT, Tryz.func79, Tryz.f79, a79, TP, TZ, orc_p, orc_l, orc_a, orc_m, e_laws_heldSecretS_l2]
  try simp only [laws_heldSecretS, evT, encs, c_js, r_map_some, e_need_t]
  all_goals rfl
theorem e_laws_heldSlotS_l2 (n : Nat) {R1} {a : List Slot} (k : Int) (i : Int) [H1 : EncL cSlot R1 a] : LP T (n + 1) 80 2 (frm [(0, .imm 3 R1), (1, .i .i64 k), (5, .i .i64 i)]) [] =
    lmap (run (laws_heldSlotS_l2 a) (k, i)) (fun (zr : Int) => (XE.ret, frm [(4, .i .i64 zr)], [])) (fun (zr : Int) => (XE.exit 0, frm [(1, .i .i64 zr)], [])) := by
  obtain ⟨rfl⟩ := H1
  rw [LP_eq]
  simp -dsimp only [↓evA, evB, lpG_eq, Tryz.func80, Tryz.f80, a80, TP, TZ, Nat.reduceAdd, Nat.reduceMul, Nat.reduceBEq, Nat.reduceLeDiff, Nat.reduceLT]
  refine run_map (fun (zs : Int × Int) => (frm [(0, .imm 3 (a.map cSlot)), (1, .i .i64 zs.1), (5, .i .i64 zs.2)], [])) (evO (fun (zr : Int) => (XE.ret, frm [(4, .i .i64 zr)], [])) (fun (zr : Int) => (XE.exit 0, frm [(1, .i .i64 zr)], []))) ?_ (k, i)
  rintro ⟨k, i⟩
  simp -dsimp +contextual only [↓evA, evB, evT, tys, encs, Nat.reduceAdd, Nat.reduceMul, Nat.reduceBEq, Nat.reduceLeDiff, Nat.reduceLT, TP, TZ, orc_p, orc_l, orc_a, orc_m]
  try simp only [laws_heldSlotS_l2, evT, encs, c_js, r_map_some, e_need_t]
  all_goals rfl
theorem e_laws_heldSlotS (n : Nat) {R1} {a : List Slot} (k : Int) [H1 : EncL cSlot R1 a] : CP T (n + 2) 80 [.imm 3 R1, .i .i64 k] = (laws_heldSlotS a k).map fun r => .i .i64 r := by
  obtain ⟨rfl⟩ := H1
  rw [CP_eq]
  simp -dsimp +contextual only [↓evA, evB, evT, tys, encs, Nat.reduceAdd, Nat.reduceMul, Nat.reduceBEq, Nat.reduceLeDiff, Nat.reduceLT, Tryz.func80, Tryz.f80, a80, TP, TZ, orc_p, orc_l, orc_a, orc_m, e_laws_heldSlotS_l2]
  try simp only [laws_heldSlotS, evT, encs, c_js, r_map_some, e_need_t]
  all_goals rfl
theorem e_laws_heldClaimS_l2 (n : Nat) {R1} {a : List Claim} (k : Int) (i : Int) [H1 : EncL cClaim R1 a] : LP T (n + 1) 81 2 (frm [(0, .imm 5 R1), (1, .i .i64 k), (5, .i .i64 i)]) [] =
    lmap (run (laws_heldClaimS_l2 a) (k, i)) (fun (zr : Int) => (XE.ret, frm [(4, .i .i64 zr)], [])) (fun (zr : Int) => (XE.exit 0, frm [(1, .i .i64 zr)], [])) := by
  obtain ⟨rfl⟩ := H1
  rw [LP_eq]
  simp -dsimp only [↓evA, evB, lpG_eq, Tryz.func81, Tryz.f81, a81, TP, TZ, Nat.reduceAdd, Nat.reduceMul, Nat.reduceBEq, Nat.reduceLeDiff, Nat.reduceLT]
  refine run_map (fun (zs : Int × Int) => (frm [(0, .imm 5 (a.map cClaim)), (1, .i .i64 zs.1), (5, .i .i64 zs.2)], [])) (evO (fun (zr : Int) => (XE.ret, frm [(4, .i .i64 zr)], [])) (fun (zr : Int) => (XE.exit 0, frm [(1, .i .i64 zr)], []))) ?_ (k, i)
  rintro ⟨k, i⟩
  simp -dsimp +contextual only [↓evA, evB, evT, tys, encs, Nat.reduceAdd, Nat.reduceMul, Nat.reduceBEq, Nat.reduceLeDiff, Nat.reduceLT, TP, TZ, orc_p, orc_l, orc_a, orc_m]
  try simp only [laws_heldClaimS_l2, evT, encs, c_js, r_map_some, e_need_t]
  all_goals rfl
theorem e_laws_heldClaimS (n : Nat) {R1} {a : List Claim} (k : Int) [H1 : EncL cClaim R1 a] : CP T (n + 2) 81 [.imm 5 R1, .i .i64 k] = (laws_heldClaimS a k).map fun r => .i .i64 r := by
  obtain ⟨rfl⟩ := H1
  rw [CP_eq]
  simp -dsimp +contextual only [↓evA, evB, evT, tys, encs, Nat.reduceAdd, Nat.reduceMul, Nat.reduceBEq, Nat.reduceLeDiff, Nat.reduceLT, Tryz.func81, Tryz.f81, a81, TP, TZ, orc_p, orc_l, orc_a, orc_m, e_laws_heldClaimS_l2]
  try simp only [laws_heldClaimS, evT, encs, c_js, r_map_some, e_need_t]
  all_goals rfl
theorem e_laws_heldTrialS_l2 (n : Nat) {R1} {a : List Trial} (k : Int) (i : Int) [H1 : EncL cTrial R1 a] : LP T (n + 1) 82 2 (frm [(0, .imm 4 R1), (1, .i .i64 k), (5, .i .i64 i)]) [] =
    lmap (run (laws_heldTrialS_l2 a) (k, i)) (fun (zr : Int) => (XE.ret, frm [(4, .i .i64 zr)], [])) (fun (zr : Int) => (XE.exit 0, frm [(1, .i .i64 zr)], [])) := by
  obtain ⟨rfl⟩ := H1
  rw [LP_eq]
  simp -dsimp only [↓evA, evB, lpG_eq, Tryz.func82, Tryz.f82, a82, TP, TZ, Nat.reduceAdd, Nat.reduceMul, Nat.reduceBEq, Nat.reduceLeDiff, Nat.reduceLT]
  refine run_map (fun (zs : Int × Int) => (frm [(0, .imm 4 (a.map cTrial)), (1, .i .i64 zs.1), (5, .i .i64 zs.2)], [])) (evO (fun (zr : Int) => (XE.ret, frm [(4, .i .i64 zr)], [])) (fun (zr : Int) => (XE.exit 0, frm [(1, .i .i64 zr)], []))) ?_ (k, i)
  rintro ⟨k, i⟩
  simp -dsimp +contextual only [↓evA, evB, evT, tys, encs, Nat.reduceAdd, Nat.reduceMul, Nat.reduceBEq, Nat.reduceLeDiff, Nat.reduceLT, TP, TZ, orc_p, orc_l, orc_a, orc_m]
  try simp only [laws_heldTrialS_l2, evT, encs, c_js, r_map_some, e_need_t]
  all_goals rfl
theorem e_laws_heldTrialS (n : Nat) {R1} {a : List Trial} (k : Int) [H1 : EncL cTrial R1 a] : CP T (n + 2) 82 [.imm 4 R1, .i .i64 k] = (laws_heldTrialS a k).map fun r => .i .i64 r := by
  obtain ⟨rfl⟩ := H1
  rw [CP_eq]
  simp -dsimp +contextual only [↓evA, evB, evT, tys, encs, Nat.reduceAdd, Nat.reduceMul, Nat.reduceBEq, Nat.reduceLeDiff, Nat.reduceLT, Tryz.func82, Tryz.f82, a82, TP, TZ, orc_p, orc_l, orc_a, orc_m, e_laws_heldTrialS_l2]
  try simp only [laws_heldTrialS, evT, encs, c_js, r_map_some, e_need_t]
  all_goals rfl
theorem e_laws_heldHandS_l2 (n : Nat) {R1} {a : List Hand} (k : Int) (i : Int) [H1 : EncL cHand R1 a] : LP T (n + 1) 83 2 (frm [(0, .imm 5 R1), (1, .i .i64 k), (5, .i .i64 i)]) [] =
    lmap (run (laws_heldHandS_l2 a) (k, i)) (fun (zr : Int) => (XE.ret, frm [(4, .i .i64 zr)], [])) (fun (zr : Int) => (XE.exit 0, frm [(1, .i .i64 zr)], [])) := by
  obtain ⟨rfl⟩ := H1
  rw [LP_eq]
  simp -dsimp only [↓evA, evB, lpG_eq, Tryz.func83, Tryz.f83, a83, TP, TZ, Nat.reduceAdd, Nat.reduceMul, Nat.reduceBEq, Nat.reduceLeDiff, Nat.reduceLT]
  refine run_map (fun (zs : Int × Int) => (frm [(0, .imm 5 (a.map cHand)), (1, .i .i64 zs.1), (5, .i .i64 zs.2)], [])) (evO (fun (zr : Int) => (XE.ret, frm [(4, .i .i64 zr)], [])) (fun (zr : Int) => (XE.exit 0, frm [(1, .i .i64 zr)], []))) ?_ (k, i)
  rintro ⟨k, i⟩
  simp -dsimp +contextual only [↓evA, evB, evT, tys, encs, Nat.reduceAdd, Nat.reduceMul, Nat.reduceBEq, Nat.reduceLeDiff, Nat.reduceLT, TP, TZ, orc_p, orc_l, orc_a, orc_m]
  try simp only [laws_heldHandS_l2, evT, encs, c_js, r_map_some, e_need_t]
  all_goals rfl
theorem e_laws_heldHandS (n : Nat) {R1} {a : List Hand} (k : Int) [H1 : EncL cHand R1 a] : CP T (n + 2) 83 [.imm 5 R1, .i .i64 k] = (laws_heldHandS a k).map fun r => .i .i64 r := by
  obtain ⟨rfl⟩ := H1
  rw [CP_eq]
  simp -dsimp +contextual only [↓evA, evB, evT, tys, encs, Nat.reduceAdd, Nat.reduceMul, Nat.reduceBEq, Nat.reduceLeDiff, Nat.reduceLT, Tryz.func83, Tryz.f83, a83, TP, TZ, orc_p, orc_l, orc_a, orc_m, e_laws_heldHandS_l2]
  try simp only [laws_heldHandS, evT, encs, c_js, r_map_some, e_need_t]
  all_goals rfl
theorem e_laws_heldEntryS_l2 (n : Nat) {R1} {a : List Entry} (k : Int) (i : Int) [H1 : EncL cEntry R1 a] : LP T (n + 1) 84 2 (frm [(0, .imm 4 R1), (1, .i .i64 k), (5, .i .i64 i)]) [] =
    lmap (run (laws_heldEntryS_l2 a) (k, i)) (fun (zr : Int) => (XE.ret, frm [(4, .i .i64 zr)], [])) (fun (zr : Int) => (XE.exit 0, frm [(1, .i .i64 zr)], [])) := by
  obtain ⟨rfl⟩ := H1
  rw [LP_eq]
  simp -dsimp only [↓evA, evB, lpG_eq, Tryz.func84, Tryz.f84, a84, TP, TZ, Nat.reduceAdd, Nat.reduceMul, Nat.reduceBEq, Nat.reduceLeDiff, Nat.reduceLT]
  refine run_map (fun (zs : Int × Int) => (frm [(0, .imm 4 (a.map cEntry)), (1, .i .i64 zs.1), (5, .i .i64 zs.2)], [])) (evO (fun (zr : Int) => (XE.ret, frm [(4, .i .i64 zr)], [])) (fun (zr : Int) => (XE.exit 0, frm [(1, .i .i64 zr)], []))) ?_ (k, i)
  rintro ⟨k, i⟩
  simp -dsimp +contextual only [↓evA, evB, evT, tys, encs, Nat.reduceAdd, Nat.reduceMul, Nat.reduceBEq, Nat.reduceLeDiff, Nat.reduceLT, TP, TZ, orc_p, orc_l, orc_a, orc_m]
  try simp only [laws_heldEntryS_l2, evT, encs, c_js, r_map_some, e_need_t]
  all_goals rfl
theorem e_laws_heldEntryS (n : Nat) {R1} {a : List Entry} (k : Int) [H1 : EncL cEntry R1 a] : CP T (n + 2) 84 [.imm 4 R1, .i .i64 k] = (laws_heldEntryS a k).map fun r => .i .i64 r := by
  obtain ⟨rfl⟩ := H1
  rw [CP_eq]
  simp -dsimp +contextual only [↓evA, evB, evT, tys, encs, Nat.reduceAdd, Nat.reduceMul, Nat.reduceBEq, Nat.reduceLeDiff, Nat.reduceLT, Tryz.func84, Tryz.f84, a84, TP, TZ, orc_p, orc_l, orc_a, orc_m, e_laws_heldEntryS_l2]
  try simp only [laws_heldEntryS, evT, encs, c_js, r_map_some, e_need_t]
  all_goals rfl
theorem e_laws_heldHouse (n : Nat) (axNo : Int) {R1} {axFinds : List Find} {R2} {axSecrets : List Secret} {R3} {axSlots : List Slot} {R4} {axClaims : List Claim} {R5} {axTrials : List Trial} {R6} {axChain : List Hand} {R7} {axBook : List Entry} (axNow : Int) (k : Int) [H1 : EncL cFind R1 axFinds] [H2 : EncL cSecret R2 axSecrets] [H3 : EncL cSlot R3 axSlots] [H4 : EncL cClaim R4 axClaims] [H5 : EncL cTrial R5 axTrials] [H6 : EncL cHand R6 axChain] [H7 : EncL cEntry R7 axBook] : CP T (n + 5) 21 [.agg [.i .i64 axNo, .imm 8 R1, .imm 3 R2, .imm 3 R3, .imm 5 R4, .imm 4 R5, .imm 5 R6, .imm 4 R7, .i .i64 axNow], .i .i64 k] = (laws_heldHouse (⟨axNo, axFinds, axSecrets, axSlots, axClaims, axTrials, axChain, axBook, axNow⟩ : House) k).map fun r => .i .i64 r := by
  obtain ⟨rfl⟩ := H1
  obtain ⟨rfl⟩ := H2
  obtain ⟨rfl⟩ := H3
  obtain ⟨rfl⟩ := H4
  obtain ⟨rfl⟩ := H5
  obtain ⟨rfl⟩ := H6
  obtain ⟨rfl⟩ := H7
  rw [CP_eq]
  simp -dsimp +contextual only [↓evA, evB, evT, tys, encs, Nat.reduceAdd, Nat.reduceMul, Nat.reduceBEq, Nat.reduceLeDiff, Nat.reduceLT, Tryz.func21, Tryz.f21, a21, TP, TZ, orc_p, orc_l, orc_a, orc_m, e_laws_heldFindS, e_laws_heldSecretS, e_laws_heldSlotS, e_laws_heldClaimS, e_laws_heldTrialS, e_laws_heldHandS, e_laws_heldEntryS]
  try simp only [laws_heldHouse, evT, encs, c_js, r_map_some, e_need_t]
  all_goals rfl
theorem e_laws_FnExactStepTick (n : Nat) (aHxNo : Int) {R1} {aHxFinds : List Find} {R2} {aHxSecrets : List Secret} {R3} {aHxSlots : List Slot} {R4} {aHxClaims : List Claim} {R5} {aHxTrials : List Trial} {R6} {aHxChain : List Hand} {R7} {aHxBook : List Entry} (aHxNow : Int) (a : Int) [H1 : EncL cFind R1 aHxFinds] [H2 : EncL cSecret R2 aHxSecrets] [H3 : EncL cSlot R3 aHxSlots] [H4 : EncL cClaim R4 aHxClaims] [H5 : EncL cTrial R5 aHxTrials] [H6 : EncL cHand R6 aHxChain] [H7 : EncL cEntry R7 aHxBook] : CP T (n + 14) 4 [.agg [.i .i64 aHxNo, .imm 8 R1, .imm 3 R2, .imm 3 R3, .imm 5 R4, .imm 4 R5, .imm 5 R6, .imm 4 R7, .i .i64 aHxNow], .i .i64 a] = (laws_FnExactStepTick (⟨aHxNo, aHxFinds, aHxSecrets, aHxSlots, aHxClaims, aHxTrials, aHxChain, aHxBook, aHxNow⟩ : House) a).map fun r => .b r := by
  obtain ⟨rfl⟩ := H1
  obtain ⟨rfl⟩ := H2
  obtain ⟨rfl⟩ := H3
  obtain ⟨rfl⟩ := H4
  obtain ⟨rfl⟩ := H5
  obtain ⟨rfl⟩ := H6
  obtain ⟨rfl⟩ := H7
  rw [CP_eq]
  simp -dsimp +contextual only [↓evA, evB, evT, tys, encs, Nat.reduceAdd, Nat.reduceMul, Nat.reduceBEq, Nat.reduceLeDiff, Nat.reduceLT, Tryz.func4, Tryz.f4, a4, TP, TZ, orc_p, orc_l, orc_a, orc_m, srt, e_laws_szHouse, e_laws_toHouse, e_spec_StepTick, e_impl_StepTick, e_laws_eqHouse, e_laws_markHouse, e_laws_heldHouse]
  try simp only [laws_FnExactStepTick, evT, encs, c_js, r_map_some, e_need_t]
  all_goals rfl
end Go.Proofs.YtcdffihcfeajfaaGreat
