/- The functions of the program come to the typed ones. No condition. -/
import Derived.Test.YtcpelionmmnogaaEc
namespace Go.Proofs.Ytcpelionmmnogaa
open Go Go.Proofs Go.Proofs.Ytcpelionmmnogaa.Am
set_option linter.unusedVariables false
set_option linter.unusedSimpArgs false
set_option linter.defProp false
set_option maxRecDepth 100000
theorem e_laws_szFindS (n : Nat) {R1} {a : List Find} (left : Int) [H1 : EncL cFind R1 a] : CP T (n + 1) 10 [.imm 8 R1, .i .i64 left] = (laws_szFindS a left).map fun r => .i .i64 r := by
  obtain ⟨rfl⟩ := H1
  rw [CP_eq]
  simp -dsimp +contextual only [↓evA, evB, evT, tys, encs, Nat.reduceAdd, Nat.reduceMul, Nat.reduceBEq, Nat.reduceLeDiff, Nat.reduceLT, Try.func10, Try.f10, a10, TP, orc_p, orc_l]
  try simp only [laws_szFindS, evT, encs, c_js, r_map_some, e_need_t]
  all_goals rfl
theorem e_laws_szMarkS (n : Nat) {R1} {a : List Mark} (left : Int) [H1 : EncL cMark R1 a] : CP T (n + 1) 11 [.imm 2 R1, .i .i64 left] = (laws_szMarkS a left).map fun r => .i .i64 r := by
  obtain ⟨rfl⟩ := H1
  rw [CP_eq]
  simp -dsimp +contextual only [↓evA, evB, evT, tys, encs, Nat.reduceAdd, Nat.reduceMul, Nat.reduceBEq, Nat.reduceLeDiff, Nat.reduceLT, Try.func11, Try.f11, a11, TP, orc_p, orc_l]
  try simp only [laws_szMarkS, evT, encs, c_js, r_map_some, e_need_t]
  all_goals rfl
theorem e_laws_toThing (n : Nat) (axId : Int) (axKind : Int) (axColour : Int) (axSize : Int) (axWorth : Int) : CP T (n + 1) 87 [.agg [.i .i64 axId, .i .i64 axKind, .i .i64 axColour, .i .i64 axSize, .i .i64 axWorth]] = (laws_toThing (⟨axId, axKind, axColour, axSize, axWorth⟩ : Thing)).map fun r => .agg (cThing r) := by
  rw [CP_eq]
  simp -dsimp +contextual only [↓evA, evB, evT, tys, encs, Nat.reduceAdd, Nat.reduceMul, Nat.reduceBEq, Nat.reduceLeDiff, Nat.reduceLT, Try.func87, Try.f87, a87, TP, orc_p, orc_l]
  try simp only [laws_toThing, evT, encs, c_js, r_map_some, e_need_t]
  all_goals rfl
theorem e_laws_toFind (n : Nat) (axThingxId : Int) (axThingxKind : Int) (axThingxColour : Int) (axThingxSize : Int) (axThingxWorth : Int) (axPlace : Int) (axAt : Int) (axFinder : Int) : CP T (n + 2) 39 [.agg [.i .i64 axThingxId, .i .i64 axThingxKind, .i .i64 axThingxColour, .i .i64 axThingxSize, .i .i64 axThingxWorth, .i .i64 axPlace, .i .i64 axAt, .i .i64 axFinder]] = (laws_toFind (⟨⟨axThingxId, axThingxKind, axThingxColour, axThingxSize, axThingxWorth⟩, axPlace, axAt, axFinder⟩ : Find)).map fun r => .agg (cFind r) := by
  rw [CP_eq]
  simp -dsimp +contextual only [↓evA, evB, evT, tys, encs, Nat.reduceAdd, Nat.reduceMul, Nat.reduceBEq, Nat.reduceLeDiff, Nat.reduceLT, Try.func39, Try.f39, a39, TP, orc_p, orc_l, e_laws_toThing]
  try simp only [laws_toFind, evT, encs, c_js, r_map_some, e_need_t]
  all_goals rfl
theorem e_laws_toFindS_l3 (n : Nat) {R1} {a : List Find} {R2} {out : List Find} (i : Int) [H1 : EncL cFind R1 a] [H2 : EncL cFind R2 out] : LP T (n + 3) 13 3 (frm [(0, .imm 8 R1), (3, .sl 0), (4, .i .i64 i)]) [some (Ent.lst 8 R2)] =
    (run (laws_toFindS_l3 a) (out, i)).map (fun (zr : (List Find)) => (XE.exit 0, frm [(3, .sl 0)], [some (Ent.lst 8 (zr.map cFind))])) := by
  obtain ⟨rfl⟩ := H1
  obtain ⟨rfl⟩ := H2
  rw [LP_eq]
  simp -dsimp only [↓evA, evB, lpG_eq, Try.func13, Try.f13, a13, TP, Nat.reduceAdd, Nat.reduceMul, Nat.reduceBEq, Nat.reduceLeDiff, Nat.reduceLT]
  refine run_map (fun (zs : (List Find) × Int) => (frm [(0, .imm 8 (a.map cFind)), (3, .sl 0), (4, .i .i64 zs.2)], [some (Ent.lst 8 (zs.1.map cFind))])) (fun (zr : (List Find)) => (XE.exit 0, frm [(3, .sl 0)], [some (Ent.lst 8 (zr.map cFind))])) ?_ (out, i)
  rintro ⟨out, i⟩
  simp -dsimp +contextual only [↓evA, evB, evT, tys, encs, Nat.reduceAdd, Nat.reduceMul, Nat.reduceBEq, Nat.reduceLeDiff, Nat.reduceLT, TP, orc_p, orc_l, e_laws_toFind]
  try simp only [laws_toFindS_l3, evT, encs, c_js, r_map_some, e_need_t]
  all_goals rfl
theorem e_laws_toFindS (n : Nat) {R1} {a : List Find} [H1 : EncL cFind R1 a] : CP T (n + 4) 13 [.imm 8 R1] = (laws_toFindS a).map fun r => .own 8 (r.map cFind) := by
  obtain ⟨rfl⟩ := H1
  rw [CP_eq]
  simp -dsimp +contextual only [↓evA, evB, evT, tys, encs, Nat.reduceAdd, Nat.reduceMul, Nat.reduceBEq, Nat.reduceLeDiff, Nat.reduceLT, Try.func13, Try.f13, a13, TP, orc_p, orc_l, e_laws_toFindS_l3]
  try simp only [laws_toFindS, evT, encs, c_js, r_map_some, e_need_t]
  all_goals rfl
theorem e_laws_toMark (n : Nat) (axQuestion : Int) (axAnswer : Int) : CP T (n + 1) 40 [.agg [.i .i64 axQuestion, .i .i64 axAnswer]] = (laws_toMark (⟨axQuestion, axAnswer⟩ : Mark)).map fun r => .agg (cMark r) := by
  rw [CP_eq]
  simp -dsimp +contextual only [↓evA, evB, evT, tys, encs, Nat.reduceAdd, Nat.reduceMul, Nat.reduceBEq, Nat.reduceLeDiff, Nat.reduceLT, Try.func40, Try.f40, a40, TP, orc_p, orc_l]
  try simp only [laws_toMark, evT, encs, c_js, r_map_some, e_need_t]
  all_goals rfl
theorem e_laws_toMarkS_l3 (n : Nat) {R1} {a : List Mark} {R2} {out : List Mark} (i : Int) [H1 : EncL cMark R1 a] [H2 : EncL cMark R2 out] : LP T (n + 2) 14 3 (frm [(0, .imm 2 R1), (3, .sl 0), (4, .i .i64 i)]) [some (Ent.lst 2 R2)] =
    (run (laws_toMarkS_l3 a) (out, i)).map (fun (zr : (List Mark)) => (XE.exit 0, frm [(3, .sl 0)], [some (Ent.lst 2 (zr.map cMark))])) := by
  obtain ⟨rfl⟩ := H1
  obtain ⟨rfl⟩ := H2
  rw [LP_eq]
  simp -dsimp only [↓evA, evB, lpG_eq, Try.func14, Try.f14, a14, TP, Nat.reduceAdd, Nat.reduceMul, Nat.reduceBEq, Nat.reduceLeDiff, Nat.reduceLT]
  refine run_map (fun (zs : (List Mark) × Int) => (frm [(0, .imm 2 (a.map cMark)), (3, .sl 0), (4, .i .i64 zs.2)], [some (Ent.lst 2 (zs.1.map cMark))])) (fun (zr : (List Mark)) => (XE.exit 0, frm [(3, .sl 0)], [some (Ent.lst 2 (zr.map cMark))])) ?_ (out, i)
  rintro ⟨out, i⟩
  simp -dsimp +contextual only [↓evA, evB, evT, tys, encs, Nat.reduceAdd, Nat.reduceMul, Nat.reduceBEq, Nat.reduceLeDiff, Nat.reduceLT, TP, orc_p, orc_l, e_laws_toMark]
  try simp only [laws_toMarkS_l3, evT, encs, c_js, r_map_some, e_need_t]
  all_goals rfl
theorem e_laws_toMarkS (n : Nat) {R1} {a : List Mark} [H1 : EncL cMark R1 a] : CP T (n + 3) 14 [.imm 2 R1] = (laws_toMarkS a).map fun r => .own 2 (r.map cMark) := by
  obtain ⟨rfl⟩ := H1
  rw [CP_eq]
  simp -dsimp +contextual only [↓evA, evB, evT, tys, encs, Nat.reduceAdd, Nat.reduceMul, Nat.reduceBEq, Nat.reduceLeDiff, Nat.reduceLT, Try.func14, Try.f14, a14, TP, orc_p, orc_l, e_laws_toMarkS_l3]
  try simp only [laws_toMarkS, evT, encs, c_js, r_map_some, e_need_t]
  all_goals rfl
theorem e_laws_szSecret (n : Nat) (axThing : Int) {R1} {axMarks : List Mark} (axSalt : Int) (left : Int) [H1 : EncL cMark R1 axMarks] : CP T (n + 2) 90 [.agg [.i .i64 axThing, .imm 2 R1, .i .i64 axSalt], .i .i64 left] = (laws_szSecret (⟨axThing, axMarks, axSalt⟩ : Secret) left).map fun r => .i .i64 r := by
  obtain ⟨rfl⟩ := H1
  rw [CP_eq]
  simp -dsimp +contextual only [↓evA, evB, evT, tys, encs, Nat.reduceAdd, Nat.reduceMul, Nat.reduceBEq, Nat.reduceLeDiff, Nat.reduceLT, Try.func90, Try.f90, a90, TP, orc_p, orc_l, e_laws_szMarkS]
  try simp only [laws_szSecret, evT, encs, c_js, r_map_some, e_need_t]
  all_goals rfl
theorem e_laws_szSecretS_l5 (n : Nat) {R1} {a : List Secret} (left : Int) (i : Int) [H1 : EncL cSecret R1 a] : LP T (n + 3) 48 5 (frm [(0, .imm 3 R1), (1, .i .i64 left), (5, .i .i64 i)]) [] =
    lmap (run (laws_szSecretS_l5 a) (left, i)) (fun (zr : Int) => (XE.ret, frm [(4, .i .i64 zr)], [])) (fun (zr : Int) => (XE.exit 0, frm [(1, .i .i64 zr)], [])) := by
  obtain ⟨rfl⟩ := H1
  rw [LP_eq]
  simp -dsimp only [↓evA, evB, lpG_eq, Try.func48, Try.f48, a48, TP, Nat.reduceAdd, Nat.reduceMul, Nat.reduceBEq, Nat.reduceLeDiff, Nat.reduceLT]
  refine run_map (fun (zs : Int × Int) => (frm [(0, .imm 3 (a.map cSecret)), (1, .i .i64 zs.1), (5, .i .i64 zs.2)], [])) (evO (fun (zr : Int) => (XE.ret, frm [(4, .i .i64 zr)], [])) (fun (zr : Int) => (XE.exit 0, frm [(1, .i .i64 zr)], []))) ?_ (left, i)
  rintro ⟨left, i⟩
  simp -dsimp +contextual only [↓evA, evB, evT, tys, encs, Nat.reduceAdd, Nat.reduceMul, Nat.reduceBEq, Nat.reduceLeDiff, Nat.reduceLT, TP, orc_p, orc_l, e_laws_szSecret]
  try simp only [laws_szSecretS_l5, evT, encs, c_js, r_map_some, e_need_t]
  all_goals rfl
theorem e_laws_szSecretS (n : Nat) {R1} {a : List Secret} (left : Int) [H1 : EncL cSecret R1 a] : CP T (n + 4) 48 [.imm 3 R1, .i .i64 left] = (laws_szSecretS a left).map fun r => .i .i64 r := by
  obtain ⟨rfl⟩ := H1
  rw [CP_eq]
  simp -dsimp +contextual only [↓evA, evB, evT, tys, encs, Nat.reduceAdd, Nat.reduceMul, Nat.reduceBEq, Nat.reduceLeDiff, Nat.reduceLT, Try.func48, Try.f48, a48, TP, orc_p, orc_l, e_laws_szSecretS_l5]
  try simp only [laws_szSecretS, evT, encs, c_js, r_map_some, e_need_t]
  all_goals rfl
theorem e_laws_szSlotS (n : Nat) {R1} {a : List Slot} (left : Int) [H1 : EncL cSlot R1 a] : CP T (n + 1) 49 [.imm 3 R1, .i .i64 left] = (laws_szSlotS a left).map fun r => .i .i64 r := by
  obtain ⟨rfl⟩ := H1
  rw [CP_eq]
  simp -dsimp +contextual only [↓evA, evB, evT, tys, encs, Nat.reduceAdd, Nat.reduceMul, Nat.reduceBEq, Nat.reduceLeDiff, Nat.reduceLT, Try.func49, Try.f49, a49, TP, orc_p, orc_l]
  try simp only [laws_szSlotS, evT, encs, c_js, r_map_some, e_need_t]
  all_goals rfl
theorem e_laws_szClaimS (n : Nat) {R1} {a : List Claim} (left : Int) [H1 : EncL cClaim R1 a] : CP T (n + 1) 50 [.imm 5 R1, .i .i64 left] = (laws_szClaimS a left).map fun r => .i .i64 r := by
  obtain ⟨rfl⟩ := H1
  rw [CP_eq]
  simp -dsimp +contextual only [↓evA, evB, evT, tys, encs, Nat.reduceAdd, Nat.reduceMul, Nat.reduceBEq, Nat.reduceLeDiff, Nat.reduceLT, Try.func50, Try.f50, a50, TP, orc_p, orc_l]
  try simp only [laws_szClaimS, evT, encs, c_js, r_map_some, e_need_t]
  all_goals rfl
theorem e_laws_szTrialS (n : Nat) {R1} {a : List Trial} (left : Int) [H1 : EncL cTrial R1 a] : CP T (n + 1) 51 [.imm 4 R1, .i .i64 left] = (laws_szTrialS a left).map fun r => .i .i64 r := by
  obtain ⟨rfl⟩ := H1
  rw [CP_eq]
  simp -dsimp +contextual only [↓evA, evB, evT, tys, encs, Nat.reduceAdd, Nat.reduceMul, Nat.reduceBEq, Nat.reduceLeDiff, Nat.reduceLT, Try.func51, Try.f51, a51, TP, orc_p, orc_l]
  try simp only [laws_szTrialS, evT, encs, c_js, r_map_some, e_need_t]
  all_goals rfl
theorem e_laws_szHandS (n : Nat) {R1} {a : List Hand} (left : Int) [H1 : EncL cHand R1 a] : CP T (n + 1) 52 [.imm 5 R1, .i .i64 left] = (laws_szHandS a left).map fun r => .i .i64 r := by
  obtain ⟨rfl⟩ := H1
  rw [CP_eq]
  simp -dsimp +contextual only [↓evA, evB, evT, tys, encs, Nat.reduceAdd, Nat.reduceMul, Nat.reduceBEq, Nat.reduceLeDiff, Nat.reduceLT, Try.func52, Try.f52, a52, TP, orc_p, orc_l]
  try simp only [laws_szHandS, evT, encs, c_js, r_map_some, e_need_t]
  all_goals rfl
theorem e_laws_szEntryS (n : Nat) {R1} {a : List Entry} (left : Int) [H1 : EncL cEntry R1 a] : CP T (n + 1) 53 [.imm 4 R1, .i .i64 left] = (laws_szEntryS a left).map fun r => .i .i64 r := by
  obtain ⟨rfl⟩ := H1
  rw [CP_eq]
  simp -dsimp +contextual only [↓evA, evB, evT, tys, encs, Nat.reduceAdd, Nat.reduceMul, Nat.reduceBEq, Nat.reduceLeDiff, Nat.reduceLT, Try.func53, Try.f53, a53, TP, orc_p, orc_l]
  try simp only [laws_szEntryS, evT, encs, c_js, r_map_some, e_need_t]
  all_goals rfl
theorem e_laws_szHouse (n : Nat) (axNo : Int) {R1} {axFinds : List Find} {R2} {axSecrets : List Secret} {R3} {axSlots : List Slot} {R4} {axClaims : List Claim} {R5} {axTrials : List Trial} {R6} {axChain : List Hand} {R7} {axBook : List Entry} (axNow : Int) (left : Int) [H1 : EncL cFind R1 axFinds] [H2 : EncL cSecret R2 axSecrets] [H3 : EncL cSlot R3 axSlots] [H4 : EncL cClaim R4 axClaims] [H5 : EncL cTrial R5 axTrials] [H6 : EncL cHand R6 axChain] [H7 : EncL cEntry R7 axBook] : CP T (n + 5) 23 [.agg [.i .i64 axNo, .imm 8 R1, .imm 3 R2, .imm 3 R3, .imm 5 R4, .imm 4 R5, .imm 5 R6, .imm 4 R7, .i .i64 axNow], .i .i64 left] = (laws_szHouse (⟨axNo, axFinds, axSecrets, axSlots, axClaims, axTrials, axChain, axBook, axNow⟩ : House) left).map fun r => .i .i64 r := by
  obtain ⟨rfl⟩ := H1
  obtain ⟨rfl⟩ := H2
  obtain ⟨rfl⟩ := H3
  obtain ⟨rfl⟩ := H4
  obtain ⟨rfl⟩ := H5
  obtain ⟨rfl⟩ := H6
  obtain ⟨rfl⟩ := H7
  rw [CP_eq]
  simp -dsimp +contextual only [↓evA, evB, evT, tys, encs, Nat.reduceAdd, Nat.reduceMul, Nat.reduceBEq, Nat.reduceLeDiff, Nat.reduceLT, Try.func23, Try.f23, a23, TP, orc_p, orc_l, e_laws_szFindS, e_laws_szSecretS, e_laws_szSlotS, e_laws_szClaimS, e_laws_szTrialS, e_laws_szHandS, e_laws_szEntryS]
  try simp only [laws_szHouse, evT, encs, c_js, r_map_some, e_need_t]
  all_goals rfl
theorem e_laws_toSecret (n : Nat) (axThing : Int) {R1} {axMarks : List Mark} (axSalt : Int) [H1 : EncL cMark R1 axMarks] : CP T (n + 4) 91 [.agg [.i .i64 axThing, .imm 2 R1, .i .i64 axSalt]] = (laws_toSecret (⟨axThing, axMarks, axSalt⟩ : Secret)).map fun r => .agg (cSecretO r) := by
  obtain ⟨rfl⟩ := H1
  rw [CP_eq]
  simp -dsimp +contextual only [↓evA, evB, evT, tys, encs, Nat.reduceAdd, Nat.reduceMul, Nat.reduceBEq, Nat.reduceLeDiff, Nat.reduceLT, Try.func91, Try.f91, a91, TP, orc_p, orc_l, e_laws_toMarkS]
  try simp only [laws_toSecret, evT, encs, c_js, r_map_some, e_need_t]
  all_goals rfl
theorem e_laws_toSecretS_l3 (n : Nat) {R1} {a : List Secret} {R2} {out : List Secret} (i : Int) [H1 : EncL cSecret R1 a] [H2 : EncL cSecretO R2 out] : LP T (n + 5) 54 3 (frm [(0, .imm 3 R1), (3, .sl 0), (4, .i .i64 i)]) [some (Ent.lst 3 R2)] =
    (run (laws_toSecretS_l3 a) (out, i)).map (fun (zr : (List Secret)) => (XE.exit 0, frm [(3, .sl 0)], [some (Ent.lst 3 (zr.map cSecretO))])) := by
  obtain ⟨rfl⟩ := H1
  obtain ⟨rfl⟩ := H2
  rw [LP_eq]
  simp -dsimp only [↓evA, evB, lpG_eq, Try.func54, Try.f54, a54, TP, Nat.reduceAdd, Nat.reduceMul, Nat.reduceBEq, Nat.reduceLeDiff, Nat.reduceLT]
  refine run_map (fun (zs : (List Secret) × Int) => (frm [(0, .imm 3 (a.map cSecret)), (3, .sl 0), (4, .i .i64 zs.2)], [some (Ent.lst 3 (zs.1.map cSecretO))])) (fun (zr : (List Secret)) => (XE.exit 0, frm [(3, .sl 0)], [some (Ent.lst 3 (zr.map cSecretO))])) ?_ (out, i)
  rintro ⟨out, i⟩
  simp -dsimp +contextual only [↓evA, evB, evT, tys, encs, Nat.reduceAdd, Nat.reduceMul, Nat.reduceBEq, Nat.reduceLeDiff, Nat.reduceLT, TP, orc_p, orc_l, e_laws_toSecret]
  try simp only [laws_toSecretS_l3, evT, encs, c_js, r_map_some, e_need_t]
  all_goals rfl
theorem e_laws_toSecretS (n : Nat) {R1} {a : List Secret} [H1 : EncL cSecret R1 a] : CP T (n + 6) 54 [.imm 3 R1] = (laws_toSecretS a).map fun r => .own 3 (r.map cSecretO) := by
  obtain ⟨rfl⟩ := H1
  rw [CP_eq]
  simp -dsimp +contextual only [↓evA, evB, evT, tys, encs, Nat.reduceAdd, Nat.reduceMul, Nat.reduceBEq, Nat.reduceLeDiff, Nat.reduceLT, Try.func54, Try.f54, a54, TP, orc_p, orc_l, e_laws_toSecretS_l3]
  try simp only [laws_toSecretS, evT, encs, c_js, r_map_some, e_need_t]
  all_goals rfl
theorem e_laws_toSlot (n : Nat) (axId : Int) (axSize : Int) (axThing : Int) : CP T (n + 1) 92 [.agg [.i .i64 axId, .i .i64 axSize, .i .i64 axThing]] = (laws_toSlot (⟨axId, axSize, axThing⟩ : Slot)).map fun r => .agg (cSlot r) := by
  rw [CP_eq]
  simp -dsimp +contextual only [↓evA, evB, evT, tys, encs, Nat.reduceAdd, Nat.reduceMul, Nat.reduceBEq, Nat.reduceLeDiff, Nat.reduceLT, Try.func92, Try.f92, a92, TP, orc_p, orc_l]
  try simp only [laws_toSlot, evT, encs, c_js, r_map_some, e_need_t]
  all_goals rfl
theorem e_laws_toSlotS_l3 (n : Nat) {R1} {a : List Slot} {R2} {out : List Slot} (i : Int) [H1 : EncL cSlot R1 a] [H2 : EncL cSlot R2 out] : LP T (n + 2) 55 3 (frm [(0, .imm 3 R1), (3, .sl 0), (4, .i .i64 i)]) [some (Ent.lst 3 R2)] =
    (run (laws_toSlotS_l3 a) (out, i)).map (fun (zr : (List Slot)) => (XE.exit 0, frm [(3, .sl 0)], [some (Ent.lst 3 (zr.map cSlot))])) := by
  obtain ⟨rfl⟩ := H1
  obtain ⟨rfl⟩ := H2
  rw [LP_eq]
  simp -dsimp only [↓evA, evB, lpG_eq, Try.func55, Try.f55, a55, TP, Nat.reduceAdd, Nat.reduceMul, Nat.reduceBEq, Nat.reduceLeDiff, Nat.reduceLT]
  refine run_map (fun (zs : (List Slot) × Int) => (frm [(0, .imm 3 (a.map cSlot)), (3, .sl 0), (4, .i .i64 zs.2)], [some (Ent.lst 3 (zs.1.map cSlot))])) (fun (zr : (List Slot)) => (XE.exit 0, frm [(3, .sl 0)], [some (Ent.lst 3 (zr.map cSlot))])) ?_ (out, i)
  rintro ⟨out, i⟩
  simp -dsimp +contextual only [↓evA, evB, evT, tys, encs, Nat.reduceAdd, Nat.reduceMul, Nat.reduceBEq, Nat.reduceLeDiff, Nat.reduceLT, TP, orc_p, orc_l, e_laws_toSlot]
  try simp only [laws_toSlotS_l3, evT, encs, c_js, r_map_some, e_need_t]
  all_goals rfl
theorem e_laws_toSlotS (n : Nat) {R1} {a : List Slot} [H1 : EncL cSlot R1 a] : CP T (n + 3) 55 [.imm 3 R1] = (laws_toSlotS a).map fun r => .own 3 (r.map cSlot) := by
  obtain ⟨rfl⟩ := H1
  rw [CP_eq]
  simp -dsimp +contextual only [↓evA, evB, evT, tys, encs, Nat.reduceAdd, Nat.reduceMul, Nat.reduceBEq, Nat.reduceLeDiff, Nat.reduceLT, Try.func55, Try.f55, a55, TP, orc_p, orc_l, e_laws_toSlotS_l3]
  try simp only [laws_toSlotS, evT, encs, c_js, r_map_some, e_need_t]
  all_goals rfl
theorem e_laws_toClaim (n : Nat) (axId : Int) (axWho : Int) (axThing : Int) (axAt : Int) (axState : Int) : CP T (n + 1) 93 [.agg [.i .i64 axId, .i .i64 axWho, .i .i64 axThing, .i .i64 axAt, .i .i64 axState]] = (laws_toClaim (⟨axId, axWho, axThing, axAt, axState⟩ : Claim)).map fun r => .agg (cClaim r) := by
  rw [CP_eq]
  simp -dsimp +contextual only [↓evA, evB, evT, tys, encs, Nat.reduceAdd, Nat.reduceMul, Nat.reduceBEq, Nat.reduceLeDiff, Nat.reduceLT, Try.func93, Try.f93, a93, TP, orc_p, orc_l]
  try simp only [laws_toClaim, evT, encs, c_js, r_map_some, e_need_t]
  all_goals rfl
theorem e_laws_toClaimS_l3 (n : Nat) {R1} {a : List Claim} {R2} {out : List Claim} (i : Int) [H1 : EncL cClaim R1 a] [H2 : EncL cClaim R2 out] : LP T (n + 2) 56 3 (frm [(0, .imm 5 R1), (3, .sl 0), (4, .i .i64 i)]) [some (Ent.lst 5 R2)] =
    (run (laws_toClaimS_l3 a) (out, i)).map (fun (zr : (List Claim)) => (XE.exit 0, frm [(3, .sl 0)], [some (Ent.lst 5 (zr.map cClaim))])) := by
  obtain ⟨rfl⟩ := H1
  obtain ⟨rfl⟩ := H2
  rw [LP_eq]
  simp -dsimp only [↓evA, evB, lpG_eq, Try.func56, Try.f56, a56, TP, Nat.reduceAdd, Nat.reduceMul, Nat.reduceBEq, Nat.reduceLeDiff, Nat.reduceLT]
  refine run_map (fun (zs : (List Claim) × Int) => (frm [(0, .imm 5 (a.map cClaim)), (3, .sl 0), (4, .i .i64 zs.2)], [some (Ent.lst 5 (zs.1.map cClaim))])) (fun (zr : (List Claim)) => (XE.exit 0, frm [(3, .sl 0)], [some (Ent.lst 5 (zr.map cClaim))])) ?_ (out, i)
  rintro ⟨out, i⟩
  simp -dsimp +contextual only [↓evA, evB, evT, tys, encs, Nat.reduceAdd, Nat.reduceMul, Nat.reduceBEq, Nat.reduceLeDiff, Nat.reduceLT, TP, orc_p, orc_l, e_laws_toClaim]
  try simp only [laws_toClaimS_l3, evT, encs, c_js, r_map_some, e_need_t]
  all_goals rfl
theorem e_laws_toClaimS (n : Nat) {R1} {a : List Claim} [H1 : EncL cClaim R1 a] : CP T (n + 3) 56 [.imm 5 R1] = (laws_toClaimS a).map fun r => .own 5 (r.map cClaim) := by
  obtain ⟨rfl⟩ := H1
  rw [CP_eq]
  simp -dsimp +contextual only [↓evA, evB, evT, tys, encs, Nat.reduceAdd, Nat.reduceMul, Nat.reduceBEq, Nat.reduceLeDiff, Nat.reduceLT, Try.func56, Try.f56, a56, TP, orc_p, orc_l, e_laws_toClaimS_l3]
  try simp only [laws_toClaimS, evT, encs, c_js, r_map_some, e_need_t]
  all_goals rfl
theorem e_laws_toTrial (n : Nat) (axClaim : Int) (axAsked : Int) (axRight : Int) (axWrong : Int) : CP T (n + 1) 94 [.agg [.i .i64 axClaim, .i .i64 axAsked, .i .i64 axRight, .i .i64 axWrong]] = (laws_toTrial (⟨axClaim, axAsked, axRight, axWrong⟩ : Trial)).map fun r => .agg (cTrial r) := by
  rw [CP_eq]
  simp -dsimp +contextual only [↓evA, evB, evT, tys, encs, Nat.reduceAdd, Nat.reduceMul, Nat.reduceBEq, Nat.reduceLeDiff, Nat.reduceLT, Try.func94, Try.f94, a94, TP, orc_p, orc_l]
  try simp only [laws_toTrial, evT, encs, c_js, r_map_some, e_need_t]
  all_goals rfl
theorem e_laws_toTrialS_l3 (n : Nat) {R1} {a : List Trial} {R2} {out : List Trial} (i : Int) [H1 : EncL cTrial R1 a] [H2 : EncL cTrial R2 out] : LP T (n + 2) 57 3 (frm [(0, .imm 4 R1), (3, .sl 0), (4, .i .i64 i)]) [some (Ent.lst 4 R2)] =
    (run (laws_toTrialS_l3 a) (out, i)).map (fun (zr : (List Trial)) => (XE.exit 0, frm [(3, .sl 0)], [some (Ent.lst 4 (zr.map cTrial))])) := by
  obtain ⟨rfl⟩ := H1
  obtain ⟨rfl⟩ := H2
  rw [LP_eq]
  simp -dsimp only [↓evA, evB, lpG_eq, Try.func57, Try.f57, a57, TP, Nat.reduceAdd, Nat.reduceMul, Nat.reduceBEq, Nat.reduceLeDiff, Nat.reduceLT]
  refine run_map (fun (zs : (List Trial) × Int) => (frm [(0, .imm 4 (a.map cTrial)), (3, .sl 0), (4, .i .i64 zs.2)], [some (Ent.lst 4 (zs.1.map cTrial))])) (fun (zr : (List Trial)) => (XE.exit 0, frm [(3, .sl 0)], [some (Ent.lst 4 (zr.map cTrial))])) ?_ (out, i)
  rintro ⟨out, i⟩
  simp -dsimp +contextual only [↓evA, evB, evT, tys, encs, Nat.reduceAdd, Nat.reduceMul, Nat.reduceBEq, Nat.reduceLeDiff, Nat.reduceLT, TP, orc_p, orc_l, e_laws_toTrial]
  try simp only [laws_toTrialS_l3, evT, encs, c_js, r_map_some, e_need_t]
  all_goals rfl
theorem e_laws_toTrialS (n : Nat) {R1} {a : List Trial} [H1 : EncL cTrial R1 a] : CP T (n + 3) 57 [.imm 4 R1] = (laws_toTrialS a).map fun r => .own 4 (r.map cTrial) := by
  obtain ⟨rfl⟩ := H1
  rw [CP_eq]
  simp -dsimp +contextual only [↓evA, evB, evT, tys, encs, Nat.reduceAdd, Nat.reduceMul, Nat.reduceBEq, Nat.reduceLeDiff, Nat.reduceLT, Try.func57, Try.f57, a57, TP, orc_p, orc_l, e_laws_toTrialS_l3]
  try simp only [laws_toTrialS, evT, encs, c_js, r_map_some, e_need_t]
  all_goals rfl
theorem e_laws_toHand (n : Nat) (axThing : Int) (axHolder : Int) (axWho : Int) (axAt : Int) (axSeal : Int) : CP T (n + 1) 95 [.agg [.i .i64 axThing, .i .i64 axHolder, .i .i64 axWho, .i .i64 axAt, .i .i64 axSeal]] = (laws_toHand (⟨axThing, axHolder, axWho, axAt, axSeal⟩ : Hand)).map fun r => .agg (cHand r) := by
  rw [CP_eq]
  simp -dsimp +contextual only [↓evA, evB, evT, tys, encs, Nat.reduceAdd, Nat.reduceMul, Nat.reduceBEq, Nat.reduceLeDiff, Nat.reduceLT, Try.func95, Try.f95, a95, TP, orc_p, orc_l]
  try simp only [laws_toHand, evT, encs, c_js, r_map_some, e_need_t]
  all_goals rfl
theorem e_laws_toHandS_l3 (n : Nat) {R1} {a : List Hand} {R2} {out : List Hand} (i : Int) [H1 : EncL cHand R1 a] [H2 : EncL cHand R2 out] : LP T (n + 2) 58 3 (frm [(0, .imm 5 R1), (3, .sl 0), (4, .i .i64 i)]) [some (Ent.lst 5 R2)] =
    (run (laws_toHandS_l3 a) (out, i)).map (fun (zr : (List Hand)) => (XE.exit 0, frm [(3, .sl 0)], [some (Ent.lst 5 (zr.map cHand))])) := by
  obtain ⟨rfl⟩ := H1
  obtain ⟨rfl⟩ := H2
  rw [LP_eq]
  simp -dsimp only [↓evA, evB, lpG_eq, Try.func58, Try.f58, a58, TP, Nat.reduceAdd, Nat.reduceMul, Nat.reduceBEq, Nat.reduceLeDiff, Nat.reduceLT]
  refine run_map (fun (zs : (List Hand) × Int) => (frm [(0, .imm 5 (a.map cHand)), (3, .sl 0), (4, .i .i64 zs.2)], [some (Ent.lst 5 (zs.1.map cHand))])) (fun (zr : (List Hand)) => (XE.exit 0, frm [(3, .sl 0)], [some (Ent.lst 5 (zr.map cHand))])) ?_ (out, i)
  rintro ⟨out, i⟩
  simp -dsimp +contextual only [↓evA, evB, evT, tys, encs, Nat.reduceAdd, Nat.reduceMul, Nat.reduceBEq, Nat.reduceLeDiff, Nat.reduceLT, TP, orc_p, orc_l, e_laws_toHand]
  try simp only [laws_toHandS_l3, evT, encs, c_js, r_map_some, e_need_t]
  all_goals rfl
theorem e_laws_toHandS (n : Nat) {R1} {a : List Hand} [H1 : EncL cHand R1 a] : CP T (n + 3) 58 [.imm 5 R1] = (laws_toHandS a).map fun r => .own 5 (r.map cHand) := by
  obtain ⟨rfl⟩ := H1
  rw [CP_eq]
  simp -dsimp +contextual only [↓evA, evB, evT, tys, encs, Nat.reduceAdd, Nat.reduceMul, Nat.reduceBEq, Nat.reduceLeDiff, Nat.reduceLT, Try.func58, Try.f58, a58, TP, orc_p, orc_l, e_laws_toHandS_l3]
  try simp only [laws_toHandS, evT, encs, c_js, r_map_some, e_need_t]
  all_goals rfl
theorem e_laws_toEntry (n : Nat) (axFrom : Int) (axTo : Int) (axCents : Int) (axAt : Int) : CP T (n + 1) 96 [.agg [.i .i64 axFrom, .i .i64 axTo, .i .i64 axCents, .i .i64 axAt]] = (laws_toEntry (⟨axFrom, axTo, axCents, axAt⟩ : Entry)).map fun r => .agg (cEntry r) := by
  rw [CP_eq]
  simp -dsimp +contextual only [↓evA, evB, evT, tys, encs, Nat.reduceAdd, Nat.reduceMul, Nat.reduceBEq, Nat.reduceLeDiff, Nat.reduceLT, Try.func96, Try.f96, a96, TP, orc_p, orc_l]
  try simp only [laws_toEntry, evT, encs, c_js, r_map_some, e_need_t]
  all_goals rfl
theorem e_laws_toEntryS_l3 (n : Nat) {R1} {a : List Entry} {R2} {out : List Entry} (i : Int) [H1 : EncL cEntry R1 a] [H2 : EncL cEntry R2 out] : LP T (n + 2) 59 3 (frm [(0, .imm 4 R1), (3, .sl 0), (4, .i .i64 i)]) [some (Ent.lst 4 R2)] =
    (run (laws_toEntryS_l3 a) (out, i)).map (fun (zr : (List Entry)) => (XE.exit 0, frm [(3, .sl 0)], [some (Ent.lst 4 (zr.map cEntry))])) := by
  obtain ⟨rfl⟩ := H1
  obtain ⟨rfl⟩ := H2
  rw [LP_eq]
  simp -dsimp only [↓evA, evB, lpG_eq, Try.func59, Try.f59, a59, TP, Nat.reduceAdd, Nat.reduceMul, Nat.reduceBEq, Nat.reduceLeDiff, Nat.reduceLT]
  refine run_map (fun (zs : (List Entry) × Int) => (frm [(0, .imm 4 (a.map cEntry)), (3, .sl 0), (4, .i .i64 zs.2)], [some (Ent.lst 4 (zs.1.map cEntry))])) (fun (zr : (List Entry)) => (XE.exit 0, frm [(3, .sl 0)], [some (Ent.lst 4 (zr.map cEntry))])) ?_ (out, i)
  rintro ⟨out, i⟩
  simp -dsimp +contextual only [↓evA, evB, evT, tys, encs, Nat.reduceAdd, Nat.reduceMul, Nat.reduceBEq, Nat.reduceLeDiff, Nat.reduceLT, TP, orc_p, orc_l, e_laws_toEntry]
  try simp only [laws_toEntryS_l3, evT, encs, c_js, r_map_some, e_need_t]
  all_goals rfl
theorem e_laws_toEntryS (n : Nat) {R1} {a : List Entry} [H1 : EncL cEntry R1 a] : CP T (n + 3) 59 [.imm 4 R1] = (laws_toEntryS a).map fun r => .own 4 (r.map cEntry) := by
  obtain ⟨rfl⟩ := H1
  rw [CP_eq]
  simp -dsimp +contextual only [↓evA, evB, evT, tys, encs, Nat.reduceAdd, Nat.reduceMul, Nat.reduceBEq, Nat.reduceLeDiff, Nat.reduceLT, Try.func59, Try.f59, a59, TP, orc_p, orc_l, e_laws_toEntryS_l3]
  try simp only [laws_toEntryS, evT, encs, c_js, r_map_some, e_need_t]
  all_goals rfl
theorem e_laws_toHouse (n : Nat) (axNo : Int) {R1} {axFinds : List Find} {R2} {axSecrets : List Secret} {R3} {axSlots : List Slot} {R4} {axClaims : List Claim} {R5} {axTrials : List Trial} {R6} {axChain : List Hand} {R7} {axBook : List Entry} (axNow : Int) [H1 : EncL cFind R1 axFinds] [H2 : EncL cSecret R2 axSecrets] [H3 : EncL cSlot R3 axSlots] [H4 : EncL cClaim R4 axClaims] [H5 : EncL cTrial R5 axTrials] [H6 : EncL cHand R6 axChain] [H7 : EncL cEntry R7 axBook] : CP T (n + 7) 25 [.agg [.i .i64 axNo, .imm 8 R1, .imm 3 R2, .imm 3 R3, .imm 5 R4, .imm 4 R5, .imm 5 R6, .imm 4 R7, .i .i64 axNow]] = (laws_toHouse (⟨axNo, axFinds, axSecrets, axSlots, axClaims, axTrials, axChain, axBook, axNow⟩ : House)).map fun r => .agg (cHouseO r) := by
  obtain ⟨rfl⟩ := H1
  obtain ⟨rfl⟩ := H2
  obtain ⟨rfl⟩ := H3
  obtain ⟨rfl⟩ := H4
  obtain ⟨rfl⟩ := H5
  obtain ⟨rfl⟩ := H6
  obtain ⟨rfl⟩ := H7
  rw [CP_eq]
  simp -dsimp +contextual only [↓evA, evB, evT, tys, encs, Nat.reduceAdd, Nat.reduceMul, Nat.reduceBEq, Nat.reduceLeDiff, Nat.reduceLT, Try.func25, Try.f25, a25, TP, orc_p, orc_l, e_laws_toFindS, e_laws_toSecretS, e_laws_toSlotS, e_laws_toClaimS, e_laws_toTrialS, e_laws_toHandS, e_laws_toEntryS]
  try simp only [laws_toHouse, evT, encs, c_js, r_map_some, e_need_t]
  all_goals rfl
theorem e_spec_ServedShare_l3 (n : Nat) (vhxNo : Int) {R1} {vhxFinds : List Find} {R2} {vhxSecrets : List Secret} {R3} {vhxSlots : List Slot} {R4} {vhxClaims : List Claim} {R5} {vhxTrials : List Trial} {R6} {vhxChain : List Hand} {R7} {vhxBook : List Entry} (vhxNow : Int) (vn : Int) (i : Int) [H1 : EncL cFind R1 vhxFinds] [H2 : EncL cSecret R2 vhxSecrets] [H3 : EncL cSlot R3 vhxSlots] [H4 : EncL cClaim R4 vhxClaims] [H5 : EncL cTrial R5 vhxTrials] [H6 : EncL cHand R6 vhxChain] [H7 : EncL cEntry R7 vhxBook] : LP T (n + 1) 24 3 (frm [(1, .ptr 0 0 0), (3, .i .i64 vn), (4, .i .i64 i)]) [some (Ent.box [.i .i64 vhxNo, .imm 8 R1, .imm 3 R2, .imm 3 R3, .imm 5 R4, .imm 4 R5, .imm 5 R6, .imm 4 R7, .i .i64 vhxNow])] =
    (run (spec_ServedShare_l3 (⟨vhxNo, vhxFinds, vhxSecrets, vhxSlots, vhxClaims, vhxTrials, vhxChain, vhxBook, vhxNow⟩ : House)) (vn, i)).map (fun (zr : Int) => (XE.exit 0, frm [(1, .ptr 0 0 0), (3, .i .i64 zr)], [some (Ent.box [.i .i64 (⟨vhxNo, vhxFinds, vhxSecrets, vhxSlots, vhxClaims, vhxTrials, vhxChain, vhxBook, vhxNow⟩ : House).No, .imm 8 ((⟨vhxNo, vhxFinds, vhxSecrets, vhxSlots, vhxClaims, vhxTrials, vhxChain, vhxBook, vhxNow⟩ : House).Finds.map cFind), .imm 3 ((⟨vhxNo, vhxFinds, vhxSecrets, vhxSlots, vhxClaims, vhxTrials, vhxChain, vhxBook, vhxNow⟩ : House).Secrets.map cSecret), .imm 3 ((⟨vhxNo, vhxFinds, vhxSecrets, vhxSlots, vhxClaims, vhxTrials, vhxChain, vhxBook, vhxNow⟩ : House).Slots.map cSlot), .imm 5 ((⟨vhxNo, vhxFinds, vhxSecrets, vhxSlots, vhxClaims, vhxTrials, vhxChain, vhxBook, vhxNow⟩ : House).Claims.map cClaim), .imm 4 ((⟨vhxNo, vhxFinds, vhxSecrets, vhxSlots, vhxClaims, vhxTrials, vhxChain, vhxBook, vhxNow⟩ : House).Trials.map cTrial), .imm 5 ((⟨vhxNo, vhxFinds, vhxSecrets, vhxSlots, vhxClaims, vhxTrials, vhxChain, vhxBook, vhxNow⟩ : House).Chain.map cHand), .imm 4 ((⟨vhxNo, vhxFinds, vhxSecrets, vhxSlots, vhxClaims, vhxTrials, vhxChain, vhxBook, vhxNow⟩ : House).Book.map cEntry), .i .i64 (⟨vhxNo, vhxFinds, vhxSecrets, vhxSlots, vhxClaims, vhxTrials, vhxChain, vhxBook, vhxNow⟩ : House).Now])])) := by
  obtain ⟨rfl⟩ := H1
  obtain ⟨rfl⟩ := H2
  obtain ⟨rfl⟩ := H3
  obtain ⟨rfl⟩ := H4
  obtain ⟨rfl⟩ := H5
  obtain ⟨rfl⟩ := H6
  obtain ⟨rfl⟩ := H7
  rw [LP_eq]
  simp -dsimp only [↓evA, evB, lpG_eq, Try.func24, Try.f24, a24, TP, Nat.reduceAdd, Nat.reduceMul, Nat.reduceBEq, Nat.reduceLeDiff, Nat.reduceLT]
  refine run_map (fun (zs : Int × Int) => (frm [(1, .ptr 0 0 0), (3, .i .i64 zs.1), (4, .i .i64 zs.2)], [some (Ent.box [.i .i64 (⟨vhxNo, vhxFinds, vhxSecrets, vhxSlots, vhxClaims, vhxTrials, vhxChain, vhxBook, vhxNow⟩ : House).No, .imm 8 ((⟨vhxNo, vhxFinds, vhxSecrets, vhxSlots, vhxClaims, vhxTrials, vhxChain, vhxBook, vhxNow⟩ : House).Finds.map cFind), .imm 3 ((⟨vhxNo, vhxFinds, vhxSecrets, vhxSlots, vhxClaims, vhxTrials, vhxChain, vhxBook, vhxNow⟩ : House).Secrets.map cSecret), .imm 3 ((⟨vhxNo, vhxFinds, vhxSecrets, vhxSlots, vhxClaims, vhxTrials, vhxChain, vhxBook, vhxNow⟩ : House).Slots.map cSlot), .imm 5 ((⟨vhxNo, vhxFinds, vhxSecrets, vhxSlots, vhxClaims, vhxTrials, vhxChain, vhxBook, vhxNow⟩ : House).Claims.map cClaim), .imm 4 ((⟨vhxNo, vhxFinds, vhxSecrets, vhxSlots, vhxClaims, vhxTrials, vhxChain, vhxBook, vhxNow⟩ : House).Trials.map cTrial), .imm 5 ((⟨vhxNo, vhxFinds, vhxSecrets, vhxSlots, vhxClaims, vhxTrials, vhxChain, vhxBook, vhxNow⟩ : House).Chain.map cHand), .imm 4 ((⟨vhxNo, vhxFinds, vhxSecrets, vhxSlots, vhxClaims, vhxTrials, vhxChain, vhxBook, vhxNow⟩ : House).Book.map cEntry), .i .i64 (⟨vhxNo, vhxFinds, vhxSecrets, vhxSlots, vhxClaims, vhxTrials, vhxChain, vhxBook, vhxNow⟩ : House).Now])])) (fun (zr : Int) => (XE.exit 0, frm [(1, .ptr 0 0 0), (3, .i .i64 zr)], [some (Ent.box [.i .i64 (⟨vhxNo, vhxFinds, vhxSecrets, vhxSlots, vhxClaims, vhxTrials, vhxChain, vhxBook, vhxNow⟩ : House).No, .imm 8 ((⟨vhxNo, vhxFinds, vhxSecrets, vhxSlots, vhxClaims, vhxTrials, vhxChain, vhxBook, vhxNow⟩ : House).Finds.map cFind), .imm 3 ((⟨vhxNo, vhxFinds, vhxSecrets, vhxSlots, vhxClaims, vhxTrials, vhxChain, vhxBook, vhxNow⟩ : House).Secrets.map cSecret), .imm 3 ((⟨vhxNo, vhxFinds, vhxSecrets, vhxSlots, vhxClaims, vhxTrials, vhxChain, vhxBook, vhxNow⟩ : House).Slots.map cSlot), .imm 5 ((⟨vhxNo, vhxFinds, vhxSecrets, vhxSlots, vhxClaims, vhxTrials, vhxChain, vhxBook, vhxNow⟩ : House).Claims.map cClaim), .imm 4 ((⟨vhxNo, vhxFinds, vhxSecrets, vhxSlots, vhxClaims, vhxTrials, vhxChain, vhxBook, vhxNow⟩ : House).Trials.map cTrial), .imm 5 ((⟨vhxNo, vhxFinds, vhxSecrets, vhxSlots, vhxClaims, vhxTrials, vhxChain, vhxBook, vhxNow⟩ : House).Chain.map cHand), .imm 4 ((⟨vhxNo, vhxFinds, vhxSecrets, vhxSlots, vhxClaims, vhxTrials, vhxChain, vhxBook, vhxNow⟩ : House).Book.map cEntry), .i .i64 (⟨vhxNo, vhxFinds, vhxSecrets, vhxSlots, vhxClaims, vhxTrials, vhxChain, vhxBook, vhxNow⟩ : House).Now])])) ?_ (vn, i)
  rintro ⟨vn, i⟩
  simp -dsimp +contextual only [↓evA, evB, evT, tys, encs, Nat.reduceAdd, Nat.reduceMul, Nat.reduceBEq, Nat.reduceLeDiff, Nat.reduceLT, TP, orc_p, orc_l]
  try simp only [spec_ServedShare_l3, evT, encs, c_js, r_map_some, e_need_t]
  all_goals rfl
theorem e_spec_ServedShare (n : Nat) (vhxNo : Int) {R1} {vhxFinds : List Find} {R2} {vhxSecrets : List Secret} {R3} {vhxSlots : List Slot} {R4} {vhxClaims : List Claim} {R5} {vhxTrials : List Trial} {R6} {vhxChain : List Hand} {R7} {vhxBook : List Entry} (vhxNow : Int) [H1 : EncL cFind R1 vhxFinds] [H2 : EncL cSecret R2 vhxSecrets] [H3 : EncL cSlot R3 vhxSlots] [H4 : EncL cClaim R4 vhxClaims] [H5 : EncL cTrial R5 vhxTrials] [H6 : EncL cHand R6 vhxChain] [H7 : EncL cEntry R7 vhxBook] : CP T (n + 2) 24 [.agg [.i .i64 vhxNo, .imm 8 R1, .imm 3 R2, .imm 3 R3, .imm 5 R4, .imm 4 R5, .imm 5 R6, .imm 4 R7, .i .i64 vhxNow]] = (spec_ServedShare (⟨vhxNo, vhxFinds, vhxSecrets, vhxSlots, vhxClaims, vhxTrials, vhxChain, vhxBook, vhxNow⟩ : House)).map fun r => .i .i64 r := by
  obtain ⟨rfl⟩ := H1
  obtain ⟨rfl⟩ := H2
  obtain ⟨rfl⟩ := H3
  obtain ⟨rfl⟩ := H4
  obtain ⟨rfl⟩ := H5
  obtain ⟨rfl⟩ := H6
  obtain ⟨rfl⟩ := H7
  rw [CP_eq]
  simp -dsimp +contextual only [↓evA, evB, evT, tys, encs, Nat.reduceAdd, Nat.reduceMul, Nat.reduceBEq, Nat.reduceLeDiff, Nat.reduceLT, Try.func24, Try.f24, a24, TP, orc_p, orc_l, e_spec_ServedShare_l3]
  try simp only [spec_ServedShare, evT, encs, c_js, r_map_some, e_need_t]
  all_goals rfl
theorem e_impl_ServedShare_l5 (n : Nat) (vhxNo : Int) {R1} {vhxFinds : List Find} {R2} {vhxSecrets : List Secret} {R3} {vhxSlots : List Slot} {R4} {vhxClaims : List Claim} {R5} {vhxTrials : List Trial} {R6} {vhxChain : List Hand} {R7} {vhxBook : List Entry} (vhxNow : Int) (vn : Int) {R8} {t11 : List Claim} (t12 : Int) (t13 : Int) [H1 : EncL cFind R1 vhxFinds] [H2 : EncL cSecret R2 vhxSecrets] [H3 : EncL cSlot R3 vhxSlots] [H4 : EncL cClaim R4 vhxClaims] [H5 : EncL cTrial R5 vhxTrials] [H6 : EncL cHand R6 vhxChain] [H7 : EncL cEntry R7 vhxBook] [H8 : EncL cClaim R8 t11] : LP T (n + 1) 26 5 (frm [(1, .ptr 0 0 0), (3, .i .i64 vn), (11, .imm 5 R8), (12, .i .i64 t12), (13, .i .i64 t13)]) [some (Ent.box [.i .i64 vhxNo, .imm 8 R1, .imm 3 R2, .imm 3 R3, .imm 5 R4, .imm 4 R5, .imm 5 R6, .imm 4 R7, .i .i64 vhxNow])] =
    (run (impl_ServedShare_l5 (⟨vhxNo, vhxFinds, vhxSecrets, vhxSlots, vhxClaims, vhxTrials, vhxChain, vhxBook, vhxNow⟩ : House) t11 t12) (vn, t13)).map (fun (zr : Int) => (XE.exit 0, frm [(1, .ptr 0 0 0), (3, .i .i64 zr)], [some (Ent.box [.i .i64 (⟨vhxNo, vhxFinds, vhxSecrets, vhxSlots, vhxClaims, vhxTrials, vhxChain, vhxBook, vhxNow⟩ : House).No, .imm 8 ((⟨vhxNo, vhxFinds, vhxSecrets, vhxSlots, vhxClaims, vhxTrials, vhxChain, vhxBook, vhxNow⟩ : House).Finds.map cFind), .imm 3 ((⟨vhxNo, vhxFinds, vhxSecrets, vhxSlots, vhxClaims, vhxTrials, vhxChain, vhxBook, vhxNow⟩ : House).Secrets.map cSecret), .imm 3 ((⟨vhxNo, vhxFinds, vhxSecrets, vhxSlots, vhxClaims, vhxTrials, vhxChain, vhxBook, vhxNow⟩ : House).Slots.map cSlot), .imm 5 ((⟨vhxNo, vhxFinds, vhxSecrets, vhxSlots, vhxClaims, vhxTrials, vhxChain, vhxBook, vhxNow⟩ : House).Claims.map cClaim), .imm 4 ((⟨vhxNo, vhxFinds, vhxSecrets, vhxSlots, vhxClaims, vhxTrials, vhxChain, vhxBook, vhxNow⟩ : House).Trials.map cTrial), .imm 5 ((⟨vhxNo, vhxFinds, vhxSecrets, vhxSlots, vhxClaims, vhxTrials, vhxChain, vhxBook, vhxNow⟩ : House).Chain.map cHand), .imm 4 ((⟨vhxNo, vhxFinds, vhxSecrets, vhxSlots, vhxClaims, vhxTrials, vhxChain, vhxBook, vhxNow⟩ : House).Book.map cEntry), .i .i64 (⟨vhxNo, vhxFinds, vhxSecrets, vhxSlots, vhxClaims, vhxTrials, vhxChain, vhxBook, vhxNow⟩ : House).Now])])) := by
  obtain ⟨rfl⟩ := H1
  obtain ⟨rfl⟩ := H2
  obtain ⟨rfl⟩ := H3
  obtain ⟨rfl⟩ := H4
  obtain ⟨rfl⟩ := H5
  obtain ⟨rfl⟩ := H6
  obtain ⟨rfl⟩ := H7
  obtain ⟨rfl⟩ := H8
  rw [LP_eq]
  simp -dsimp only [↓evA, evB, lpG_eq, Try.func26, Try.f26, a26, TP, Nat.reduceAdd, Nat.reduceMul, Nat.reduceBEq, Nat.reduceLeDiff, Nat.reduceLT]
  refine run_map (fun (zs : Int × Int) => (frm [(1, .ptr 0 0 0), (3, .i .i64 zs.1), (11, .imm 5 (t11.map cClaim)), (12, .i .i64 t12), (13, .i .i64 zs.2)], [some (Ent.box [.i .i64 (⟨vhxNo, vhxFinds, vhxSecrets, vhxSlots, vhxClaims, vhxTrials, vhxChain, vhxBook, vhxNow⟩ : House).No, .imm 8 ((⟨vhxNo, vhxFinds, vhxSecrets, vhxSlots, vhxClaims, vhxTrials, vhxChain, vhxBook, vhxNow⟩ : House).Finds.map cFind), .imm 3 ((⟨vhxNo, vhxFinds, vhxSecrets, vhxSlots, vhxClaims, vhxTrials, vhxChain, vhxBook, vhxNow⟩ : House).Secrets.map cSecret), .imm 3 ((⟨vhxNo, vhxFinds, vhxSecrets, vhxSlots, vhxClaims, vhxTrials, vhxChain, vhxBook, vhxNow⟩ : House).Slots.map cSlot), .imm 5 ((⟨vhxNo, vhxFinds, vhxSecrets, vhxSlots, vhxClaims, vhxTrials, vhxChain, vhxBook, vhxNow⟩ : House).Claims.map cClaim), .imm 4 ((⟨vhxNo, vhxFinds, vhxSecrets, vhxSlots, vhxClaims, vhxTrials, vhxChain, vhxBook, vhxNow⟩ : House).Trials.map cTrial), .imm 5 ((⟨vhxNo, vhxFinds, vhxSecrets, vhxSlots, vhxClaims, vhxTrials, vhxChain, vhxBook, vhxNow⟩ : House).Chain.map cHand), .imm 4 ((⟨vhxNo, vhxFinds, vhxSecrets, vhxSlots, vhxClaims, vhxTrials, vhxChain, vhxBook, vhxNow⟩ : House).Book.map cEntry), .i .i64 (⟨vhxNo, vhxFinds, vhxSecrets, vhxSlots, vhxClaims, vhxTrials, vhxChain, vhxBook, vhxNow⟩ : House).Now])])) (fun (zr : Int) => (XE.exit 0, frm [(1, .ptr 0 0 0), (3, .i .i64 zr)], [some (Ent.box [.i .i64 (⟨vhxNo, vhxFinds, vhxSecrets, vhxSlots, vhxClaims, vhxTrials, vhxChain, vhxBook, vhxNow⟩ : House).No, .imm 8 ((⟨vhxNo, vhxFinds, vhxSecrets, vhxSlots, vhxClaims, vhxTrials, vhxChain, vhxBook, vhxNow⟩ : House).Finds.map cFind), .imm 3 ((⟨vhxNo, vhxFinds, vhxSecrets, vhxSlots, vhxClaims, vhxTrials, vhxChain, vhxBook, vhxNow⟩ : House).Secrets.map cSecret), .imm 3 ((⟨vhxNo, vhxFinds, vhxSecrets, vhxSlots, vhxClaims, vhxTrials, vhxChain, vhxBook, vhxNow⟩ : House).Slots.map cSlot), .imm 5 ((⟨vhxNo, vhxFinds, vhxSecrets, vhxSlots, vhxClaims, vhxTrials, vhxChain, vhxBook, vhxNow⟩ : House).Claims.map cClaim), .imm 4 ((⟨vhxNo, vhxFinds, vhxSecrets, vhxSlots, vhxClaims, vhxTrials, vhxChain, vhxBook, vhxNow⟩ : House).Trials.map cTrial), .imm 5 ((⟨vhxNo, vhxFinds, vhxSecrets, vhxSlots, vhxClaims, vhxTrials, vhxChain, vhxBook, vhxNow⟩ : House).Chain.map cHand), .imm 4 ((⟨vhxNo, vhxFinds, vhxSecrets, vhxSlots, vhxClaims, vhxTrials, vhxChain, vhxBook, vhxNow⟩ : House).Book.map cEntry), .i .i64 (⟨vhxNo, vhxFinds, vhxSecrets, vhxSlots, vhxClaims, vhxTrials, vhxChain, vhxBook, vhxNow⟩ : House).Now])])) ?_ (vn, t13)
  rintro ⟨vn, t13⟩
  simp -dsimp +contextual only [↓evA, evB, evT, tys, encs, Nat.reduceAdd, Nat.reduceMul, Nat.reduceBEq, Nat.reduceLeDiff, Nat.reduceLT, TP, orc_p, orc_l]
  try simp only [impl_ServedShare_l5, evT, encs, c_js, r_map_some, e_need_t]
  all_goals rfl
theorem e_impl_ServedShare (n : Nat) (vhxNo : Int) {R1} {vhxFinds : List Find} {R2} {vhxSecrets : List Secret} {R3} {vhxSlots : List Slot} {R4} {vhxClaims : List Claim} {R5} {vhxTrials : List Trial} {R6} {vhxChain : List Hand} {R7} {vhxBook : List Entry} (vhxNow : Int) [H1 : EncL cFind R1 vhxFinds] [H2 : EncL cSecret R2 vhxSecrets] [H3 : EncL cSlot R3 vhxSlots] [H4 : EncL cClaim R4 vhxClaims] [H5 : EncL cTrial R5 vhxTrials] [H6 : EncL cHand R6 vhxChain] [H7 : EncL cEntry R7 vhxBook] : CP T (n + 2) 26 [.agg [.i .i64 vhxNo, .imm 8 R1, .imm 3 R2, .imm 3 R3, .imm 5 R4, .imm 4 R5, .imm 5 R6, .imm 4 R7, .i .i64 vhxNow]] = (impl_ServedShare (⟨vhxNo, vhxFinds, vhxSecrets, vhxSlots, vhxClaims, vhxTrials, vhxChain, vhxBook, vhxNow⟩ : House)).map fun r => .i .i64 r := by
  obtain ⟨rfl⟩ := H1
  obtain ⟨rfl⟩ := H2
  obtain ⟨rfl⟩ := H3
  obtain ⟨rfl⟩ := H4
  obtain ⟨rfl⟩ := H5
  obtain ⟨rfl⟩ := H6
  obtain ⟨rfl⟩ := H7
  rw [CP_eq]
  simp -dsimp +contextual only [↓evA, evB, evT, tys, encs, Nat.reduceAdd, Nat.reduceMul, Nat.reduceBEq, Nat.reduceLeDiff, Nat.reduceLT, Try.func26, Try.f26, a26, TP, orc_p, orc_l, e_impl_ServedShare_l5]
  try simp only [impl_ServedShare, evT, encs, c_js, r_map_some, e_need_t]
  all_goals rfl
theorem e_laws_eqThing (n : Nat) (axId : Int) (axKind : Int) (axColour : Int) (axSize : Int) (axWorth : Int) (bxId : Int) (bxKind : Int) (bxColour : Int) (bxSize : Int) (bxWorth : Int) : CP T (n + 1) 89 [.agg [.i .i64 axId, .i .i64 axKind, .i .i64 axColour, .i .i64 axSize, .i .i64 axWorth], .agg [.i .i64 bxId, .i .i64 bxKind, .i .i64 bxColour, .i .i64 bxSize, .i .i64 bxWorth]] = (laws_eqThing (⟨axId, axKind, axColour, axSize, axWorth⟩ : Thing) (⟨bxId, bxKind, bxColour, bxSize, bxWorth⟩ : Thing)).map fun r => .b r := by
  rw [CP_eq]
  simp -dsimp +contextual only [↓evA, evB, evT, tys, encs, Nat.reduceAdd, Nat.reduceMul, Nat.reduceBEq, Nat.reduceLeDiff, Nat.reduceLT, Try.func89, Try.f89, a89, TP, orc_p, orc_l]
  try simp only [laws_eqThing, evT, encs, c_js, r_map_some, e_need_t]
  all_goals rfl
theorem e_laws_eqFind (n : Nat) (axThingxId : Int) (axThingxKind : Int) (axThingxColour : Int) (axThingxSize : Int) (axThingxWorth : Int) (axPlace : Int) (axAt : Int) (axFinder : Int) (bxThingxId : Int) (bxThingxKind : Int) (bxThingxColour : Int) (bxThingxSize : Int) (bxThingxWorth : Int) (bxPlace : Int) (bxAt : Int) (bxFinder : Int) : CP T (n + 2) 43 [.agg [.i .i64 axThingxId, .i .i64 axThingxKind, .i .i64 axThingxColour, .i .i64 axThingxSize, .i .i64 axThingxWorth, .i .i64 axPlace, .i .i64 axAt, .i .i64 axFinder], .agg [.i .i64 bxThingxId, .i .i64 bxThingxKind, .i .i64 bxThingxColour, .i .i64 bxThingxSize, .i .i64 bxThingxWorth, .i .i64 bxPlace, .i .i64 bxAt, .i .i64 bxFinder]] = (laws_eqFind (⟨⟨axThingxId, axThingxKind, axThingxColour, axThingxSize, axThingxWorth⟩, axPlace, axAt, axFinder⟩ : Find) (⟨⟨bxThingxId, bxThingxKind, bxThingxColour, bxThingxSize, bxThingxWorth⟩, bxPlace, bxAt, bxFinder⟩ : Find)).map fun r => .b r := by
  rw [CP_eq]
  simp -dsimp +contextual only [↓evA, evB, evT, tys, encs, Nat.reduceAdd, Nat.reduceMul, Nat.reduceBEq, Nat.reduceLeDiff, Nat.reduceLT, Try.func43, Try.f43, a43, TP, orc_p, orc_l, e_laws_eqThing]
  try simp only [laws_eqFind, evT, encs, c_js, r_map_some, e_need_t]
  all_goals rfl
theorem e_laws_eqFindS_l4 (n : Nat) {R1} {a : List Find} {R2} {b : List Find} (i : Int) [H1 : EncL cFind R1 a] [H2 : EncL cFind R2 b] : LP T (n + 3) 17 4 (frm [(0, .imm 8 R1), (1, .imm 8 R2), (5, .i .i64 i)]) [] =
    lmap (run (laws_eqFindS_l4 a b) i) (fun (zr : Bool) => (XE.ret, frm [(4, .b zr)], [])) (fun (zr : Unit) => (XE.exit 0, frm [], [])) := by
  obtain ⟨rfl⟩ := H1
  obtain ⟨rfl⟩ := H2
  rw [LP_eq]
  simp -dsimp only [↓evA, evB, lpG_eq, Try.func17, Try.f17, a17, TP, Nat.reduceAdd, Nat.reduceMul, Nat.reduceBEq, Nat.reduceLeDiff, Nat.reduceLT]
  refine run_map (fun (zs : Int) => (frm [(0, .imm 8 (a.map cFind)), (1, .imm 8 (b.map cFind)), (5, .i .i64 zs)], [])) (evO (fun (zr : Bool) => (XE.ret, frm [(4, .b zr)], [])) (fun (zr : Unit) => (XE.exit 0, frm [], []))) ?_ i
  intro i
  simp -dsimp +contextual only [↓evA, evB, evT, tys, encs, Nat.reduceAdd, Nat.reduceMul, Nat.reduceBEq, Nat.reduceLeDiff, Nat.reduceLT, TP, orc_p, orc_l, e_laws_eqFind]
  try simp only [laws_eqFindS_l4, evT, encs, c_js, r_map_some, e_need_t]
  all_goals rfl
theorem e_laws_eqFindS (n : Nat) {R1} {a : List Find} {R2} {b : List Find} [H1 : EncL cFind R1 a] [H2 : EncL cFind R2 b] : CP T (n + 4) 17 [.imm 8 R1, .imm 8 R2] = (laws_eqFindS a b).map fun r => .b r := by
  obtain ⟨rfl⟩ := H1
  obtain ⟨rfl⟩ := H2
  rw [CP_eq]
  simp -dsimp +contextual only [↓evA, evB, evT, tys, encs, Nat.reduceAdd, Nat.reduceMul, Nat.reduceBEq, Nat.reduceLeDiff, Nat.reduceLT, Try.func17, Try.f17, a17, TP, orc_p, orc_l, e_laws_eqFindS_l4]
  try simp only [laws_eqFindS, evT, encs, c_js, r_map_some, e_need_t]
  all_goals rfl
theorem e_laws_eqMark (n : Nat) (axQuestion : Int) (axAnswer : Int) (bxQuestion : Int) (bxAnswer : Int) : CP T (n + 1) 44 [.agg [.i .i64 axQuestion, .i .i64 axAnswer], .agg [.i .i64 bxQuestion, .i .i64 bxAnswer]] = (laws_eqMark (⟨axQuestion, axAnswer⟩ : Mark) (⟨bxQuestion, bxAnswer⟩ : Mark)).map fun r => .b r := by
  rw [CP_eq]
  simp -dsimp +contextual only [↓evA, evB, evT, tys, encs, Nat.reduceAdd, Nat.reduceMul, Nat.reduceBEq, Nat.reduceLeDiff, Nat.reduceLT, Try.func44, Try.f44, a44, TP, orc_p, orc_l]
  try simp only [laws_eqMark, evT, encs, c_js, r_map_some, e_need_t]
  all_goals rfl
theorem e_laws_eqMarkS_l4 (n : Nat) {R1} {a : List Mark} {R2} {b : List Mark} (i : Int) [H1 : EncL cMark R1 a] [H2 : EncL cMark R2 b] : LP T (n + 2) 18 4 (frm [(0, .imm 2 R1), (1, .imm 2 R2), (5, .i .i64 i)]) [] =
    lmap (run (laws_eqMarkS_l4 a b) i) (fun (zr : Bool) => (XE.ret, frm [(4, .b zr)], [])) (fun (zr : Unit) => (XE.exit 0, frm [], [])) := by
  obtain ⟨rfl⟩ := H1
  obtain ⟨rfl⟩ := H2
  rw [LP_eq]
  simp -dsimp only [↓evA, evB, lpG_eq, Try.func18, Try.f18, a18, TP, Nat.reduceAdd, Nat.reduceMul, Nat.reduceBEq, Nat.reduceLeDiff, Nat.reduceLT]
  refine run_map (fun (zs : Int) => (frm [(0, .imm 2 (a.map cMark)), (1, .imm 2 (b.map cMark)), (5, .i .i64 zs)], [])) (evO (fun (zr : Bool) => (XE.ret, frm [(4, .b zr)], [])) (fun (zr : Unit) => (XE.exit 0, frm [], []))) ?_ i
  intro i
  simp -dsimp +contextual only [↓evA, evB, evT, tys, encs, Nat.reduceAdd, Nat.reduceMul, Nat.reduceBEq, Nat.reduceLeDiff, Nat.reduceLT, TP, orc_p, orc_l, e_laws_eqMark]
  try simp only [laws_eqMarkS_l4, evT, encs, c_js, r_map_some, e_need_t]
  all_goals rfl
theorem e_laws_eqMarkS (n : Nat) {R1} {a : List Mark} {R2} {b : List Mark} [H1 : EncL cMark R1 a] [H2 : EncL cMark R2 b] : CP T (n + 3) 18 [.imm 2 R1, .imm 2 R2] = (laws_eqMarkS a b).map fun r => .b r := by
  obtain ⟨rfl⟩ := H1
  obtain ⟨rfl⟩ := H2
  rw [CP_eq]
  simp -dsimp +contextual only [↓evA, evB, evT, tys, encs, Nat.reduceAdd, Nat.reduceMul, Nat.reduceBEq, Nat.reduceLeDiff, Nat.reduceLT, Try.func18, Try.f18, a18, TP, orc_p, orc_l, e_laws_eqMarkS_l4]
  try simp only [laws_eqMarkS, evT, encs, c_js, r_map_some, e_need_t]
  all_goals rfl
theorem e_laws_eqSecret (n : Nat) (axThing : Int) {R1} {axMarks : List Mark} (axSalt : Int) (bxThing : Int) {R2} {bxMarks : List Mark} (bxSalt : Int) [H1 : EncL cMark R1 axMarks] [H2 : EncL cMark R2 bxMarks] : CP T (n + 4) 97 [.agg [.i .i64 axThing, .imm 2 R1, .i .i64 axSalt], .agg [.i .i64 bxThing, .imm 2 R2, .i .i64 bxSalt]] = (laws_eqSecret (⟨axThing, axMarks, axSalt⟩ : Secret) (⟨bxThing, bxMarks, bxSalt⟩ : Secret)).map fun r => .b r := by
  obtain ⟨rfl⟩ := H1
  obtain ⟨rfl⟩ := H2
  rw [CP_eq]
  simp -dsimp +contextual only [↓evA, evB, evT, tys, encs, Nat.reduceAdd, Nat.reduceMul, Nat.reduceBEq, Nat.reduceLeDiff, Nat.reduceLT, Try.func97, Try.f97, a97, TP, orc_p, orc_l, e_laws_eqMarkS]
  try simp only [laws_eqSecret, evT, encs, c_js, r_map_some, e_need_t]
  all_goals rfl
theorem e_laws_eqSecretS_l4 (n : Nat) {R1} {a : List Secret} {R2} {b : List Secret} (i : Int) [H1 : EncL cSecret R1 a] [H2 : EncL cSecret R2 b] : LP T (n + 5) 60 4 (frm [(0, .imm 3 R1), (1, .imm 3 R2), (5, .i .i64 i)]) [] =
    lmap (run (laws_eqSecretS_l4 a b) i) (fun (zr : Bool) => (XE.ret, frm [(4, .b zr)], [])) (fun (zr : Unit) => (XE.exit 0, frm [], [])) := by
  obtain ⟨rfl⟩ := H1
  obtain ⟨rfl⟩ := H2
  rw [LP_eq]
  simp -dsimp only [↓evA, evB, lpG_eq, Try.func60, Try.f60, a60, TP, Nat.reduceAdd, Nat.reduceMul, Nat.reduceBEq, Nat.reduceLeDiff, Nat.reduceLT]
  refine run_map (fun (zs : Int) => (frm [(0, .imm 3 (a.map cSecret)), (1, .imm 3 (b.map cSecret)), (5, .i .i64 zs)], [])) (evO (fun (zr : Bool) => (XE.ret, frm [(4, .b zr)], [])) (fun (zr : Unit) => (XE.exit 0, frm [], []))) ?_ i
  intro i
  simp -dsimp +contextual only [↓evA, evB, evT, tys, encs, Nat.reduceAdd, Nat.reduceMul, Nat.reduceBEq, Nat.reduceLeDiff, Nat.reduceLT, TP, orc_p, orc_l, e_laws_eqSecret]
  try simp only [laws_eqSecretS_l4, evT, encs, c_js, r_map_some, e_need_t]
  all_goals rfl
theorem e_laws_eqSecretS (n : Nat) {R1} {a : List Secret} {R2} {b : List Secret} [H1 : EncL cSecret R1 a] [H2 : EncL cSecret R2 b] : CP T (n + 6) 60 [.imm 3 R1, .imm 3 R2] = (laws_eqSecretS a b).map fun r => .b r := by
  obtain ⟨rfl⟩ := H1
  obtain ⟨rfl⟩ := H2
  rw [CP_eq]
  simp -dsimp +contextual only [↓evA, evB, evT, tys, encs, Nat.reduceAdd, Nat.reduceMul, Nat.reduceBEq, Nat.reduceLeDiff, Nat.reduceLT, Try.func60, Try.f60, a60, TP, orc_p, orc_l, e_laws_eqSecretS_l4]
  try simp only [laws_eqSecretS, evT, encs, c_js, r_map_some, e_need_t]
  all_goals rfl
theorem e_laws_eqSlot (n : Nat) (axId : Int) (axSize : Int) (axThing : Int) (bxId : Int) (bxSize : Int) (bxThing : Int) : CP T (n + 1) 98 [.agg [.i .i64 axId, .i .i64 axSize, .i .i64 axThing], .agg [.i .i64 bxId, .i .i64 bxSize, .i .i64 bxThing]] = (laws_eqSlot (⟨axId, axSize, axThing⟩ : Slot) (⟨bxId, bxSize, bxThing⟩ : Slot)).map fun r => .b r := by
  rw [CP_eq]
  simp -dsimp +contextual only [↓evA, evB, evT, tys, encs, Nat.reduceAdd, Nat.reduceMul, Nat.reduceBEq, Nat.reduceLeDiff, Nat.reduceLT, Try.func98, Try.f98, a98, TP, orc_p, orc_l]
  try simp only [laws_eqSlot, evT, encs, c_js, r_map_some, e_need_t]
  all_goals rfl
theorem e_laws_eqSlotS_l4 (n : Nat) {R1} {a : List Slot} {R2} {b : List Slot} (i : Int) [H1 : EncL cSlot R1 a] [H2 : EncL cSlot R2 b] : LP T (n + 2) 61 4 (frm [(0, .imm 3 R1), (1, .imm 3 R2), (5, .i .i64 i)]) [] =
    lmap (run (laws_eqSlotS_l4 a b) i) (fun (zr : Bool) => (XE.ret, frm [(4, .b zr)], [])) (fun (zr : Unit) => (XE.exit 0, frm [], [])) := by
  obtain ⟨rfl⟩ := H1
  obtain ⟨rfl⟩ := H2
  rw [LP_eq]
  simp -dsimp only [↓evA, evB, lpG_eq, Try.func61, Try.f61, a61, TP, Nat.reduceAdd, Nat.reduceMul, Nat.reduceBEq, Nat.reduceLeDiff, Nat.reduceLT]
  refine run_map (fun (zs : Int) => (frm [(0, .imm 3 (a.map cSlot)), (1, .imm 3 (b.map cSlot)), (5, .i .i64 zs)], [])) (evO (fun (zr : Bool) => (XE.ret, frm [(4, .b zr)], [])) (fun (zr : Unit) => (XE.exit 0, frm [], []))) ?_ i
  intro i
  simp -dsimp +contextual only [↓evA, evB, evT, tys, encs, Nat.reduceAdd, Nat.reduceMul, Nat.reduceBEq, Nat.reduceLeDiff, Nat.reduceLT, TP, orc_p, orc_l, e_laws_eqSlot]
  try simp only [laws_eqSlotS_l4, evT, encs, c_js, r_map_some, e_need_t]
  all_goals rfl
theorem e_laws_eqSlotS (n : Nat) {R1} {a : List Slot} {R2} {b : List Slot} [H1 : EncL cSlot R1 a] [H2 : EncL cSlot R2 b] : CP T (n + 3) 61 [.imm 3 R1, .imm 3 R2] = (laws_eqSlotS a b).map fun r => .b r := by
  obtain ⟨rfl⟩ := H1
  obtain ⟨rfl⟩ := H2
  rw [CP_eq]
  simp -dsimp +contextual only [↓evA, evB, evT, tys, encs, Nat.reduceAdd, Nat.reduceMul, Nat.reduceBEq, Nat.reduceLeDiff, Nat.reduceLT, Try.func61, Try.f61, a61, TP, orc_p, orc_l, e_laws_eqSlotS_l4]
  try simp only [laws_eqSlotS, evT, encs, c_js, r_map_some, e_need_t]
  all_goals rfl
theorem e_laws_eqClaim (n : Nat) (axId : Int) (axWho : Int) (axThing : Int) (axAt : Int) (axState : Int) (bxId : Int) (bxWho : Int) (bxThing : Int) (bxAt : Int) (bxState : Int) : CP T (n + 1) 99 [.agg [.i .i64 axId, .i .i64 axWho, .i .i64 axThing, .i .i64 axAt, .i .i64 axState], .agg [.i .i64 bxId, .i .i64 bxWho, .i .i64 bxThing, .i .i64 bxAt, .i .i64 bxState]] = (laws_eqClaim (⟨axId, axWho, axThing, axAt, axState⟩ : Claim) (⟨bxId, bxWho, bxThing, bxAt, bxState⟩ : Claim)).map fun r => .b r := by
  rw [CP_eq]
  simp -dsimp +contextual only [↓evA, evB, evT, tys, encs, Nat.reduceAdd, Nat.reduceMul, Nat.reduceBEq, Nat.reduceLeDiff, Nat.reduceLT, Try.func99, Try.f99, a99, TP, orc_p, orc_l]
  try simp only [laws_eqClaim, evT, encs, c_js, r_map_some, e_need_t]
  all_goals rfl
theorem e_laws_eqClaimS_l4 (n : Nat) {R1} {a : List Claim} {R2} {b : List Claim} (i : Int) [H1 : EncL cClaim R1 a] [H2 : EncL cClaim R2 b] : LP T (n + 2) 62 4 (frm [(0, .imm 5 R1), (1, .imm 5 R2), (5, .i .i64 i)]) [] =
    lmap (run (laws_eqClaimS_l4 a b) i) (fun (zr : Bool) => (XE.ret, frm [(4, .b zr)], [])) (fun (zr : Unit) => (XE.exit 0, frm [], [])) := by
  obtain ⟨rfl⟩ := H1
  obtain ⟨rfl⟩ := H2
  rw [LP_eq]
  simp -dsimp only [↓evA, evB, lpG_eq, Try.func62, Try.f62, a62, TP, Nat.reduceAdd, Nat.reduceMul, Nat.reduceBEq, Nat.reduceLeDiff, Nat.reduceLT]
  refine run_map (fun (zs : Int) => (frm [(0, .imm 5 (a.map cClaim)), (1, .imm 5 (b.map cClaim)), (5, .i .i64 zs)], [])) (evO (fun (zr : Bool) => (XE.ret, frm [(4, .b zr)], [])) (fun (zr : Unit) => (XE.exit 0, frm [], []))) ?_ i
  intro i
  simp -dsimp +contextual only [↓evA, evB, evT, tys, encs, Nat.reduceAdd, Nat.reduceMul, Nat.reduceBEq, Nat.reduceLeDiff, Nat.reduceLT, TP, orc_p, orc_l, e_laws_eqClaim]
  try simp only [laws_eqClaimS_l4, evT, encs, c_js, r_map_some, e_need_t]
  all_goals rfl
theorem e_laws_eqClaimS (n : Nat) {R1} {a : List Claim} {R2} {b : List Claim} [H1 : EncL cClaim R1 a] [H2 : EncL cClaim R2 b] : CP T (n + 3) 62 [.imm 5 R1, .imm 5 R2] = (laws_eqClaimS a b).map fun r => .b r := by
  obtain ⟨rfl⟩ := H1
  obtain ⟨rfl⟩ := H2
  rw [CP_eq]
  simp -dsimp +contextual only [↓evA, evB, evT, tys, encs, Nat.reduceAdd, Nat.reduceMul, Nat.reduceBEq, Nat.reduceLeDiff, Nat.reduceLT, Try.func62, Try.f62, a62, TP, orc_p, orc_l, e_laws_eqClaimS_l4]
  try simp only [laws_eqClaimS, evT, encs, c_js, r_map_some, e_need_t]
  all_goals rfl
theorem e_laws_eqTrial (n : Nat) (axClaim : Int) (axAsked : Int) (axRight : Int) (axWrong : Int) (bxClaim : Int) (bxAsked : Int) (bxRight : Int) (bxWrong : Int) : CP T (n + 1) 30 [.agg [.i .i64 axClaim, .i .i64 axAsked, .i .i64 axRight, .i .i64 axWrong], .agg [.i .i64 bxClaim, .i .i64 bxAsked, .i .i64 bxRight, .i .i64 bxWrong]] = (laws_eqTrial (⟨axClaim, axAsked, axRight, axWrong⟩ : Trial) (⟨bxClaim, bxAsked, bxRight, bxWrong⟩ : Trial)).map fun r => .b r := by
  rw [CP_eq]
  simp -dsimp +contextual only [↓evA, evB, evT, tys, encs, Nat.reduceAdd, Nat.reduceMul, Nat.reduceBEq, Nat.reduceLeDiff, Nat.reduceLT, Try.func30, Try.f30, a30, TP, orc_p, orc_l]
  try simp only [laws_eqTrial, evT, encs, c_js, r_map_some, e_need_t]
  all_goals rfl
theorem e_laws_eqTrialS_l4 (n : Nat) {R1} {a : List Trial} {R2} {b : List Trial} (i : Int) [H1 : EncL cTrial R1 a] [H2 : EncL cTrial R2 b] : LP T (n + 2) 63 4 (frm [(0, .imm 4 R1), (1, .imm 4 R2), (5, .i .i64 i)]) [] =
    lmap (run (laws_eqTrialS_l4 a b) i) (fun (zr : Bool) => (XE.ret, frm [(4, .b zr)], [])) (fun (zr : Unit) => (XE.exit 0, frm [], [])) := by
  obtain ⟨rfl⟩ := H1
  obtain ⟨rfl⟩ := H2
  rw [LP_eq]
  simp -dsimp only [↓evA, evB, lpG_eq, Try.func63, Try.f63, a63, TP, Nat.reduceAdd, Nat.reduceMul, Nat.reduceBEq, Nat.reduceLeDiff, Nat.reduceLT]
  refine run_map (fun (zs : Int) => (frm [(0, .imm 4 (a.map cTrial)), (1, .imm 4 (b.map cTrial)), (5, .i .i64 zs)], [])) (evO (fun (zr : Bool) => (XE.ret, frm [(4, .b zr)], [])) (fun (zr : Unit) => (XE.exit 0, frm [], []))) ?_ i
  intro i
  simp -dsimp +contextual only [↓evA, evB, evT, tys, encs, Nat.reduceAdd, Nat.reduceMul, Nat.reduceBEq, Nat.reduceLeDiff, Nat.reduceLT, TP, orc_p, orc_l, e_laws_eqTrial]
  try simp only [laws_eqTrialS_l4, evT, encs, c_js, r_map_some, e_need_t]
  all_goals rfl
theorem e_laws_eqTrialS (n : Nat) {R1} {a : List Trial} {R2} {b : List Trial} [H1 : EncL cTrial R1 a] [H2 : EncL cTrial R2 b] : CP T (n + 3) 63 [.imm 4 R1, .imm 4 R2] = (laws_eqTrialS a b).map fun r => .b r := by
  obtain ⟨rfl⟩ := H1
  obtain ⟨rfl⟩ := H2
  rw [CP_eq]
  simp -dsimp +contextual only [↓evA, evB, evT, tys, encs, Nat.reduceAdd, Nat.reduceMul, Nat.reduceBEq, Nat.reduceLeDiff, Nat.reduceLT, Try.func63, Try.f63, a63, TP, orc_p, orc_l, e_laws_eqTrialS_l4]
  try simp only [laws_eqTrialS, evT, encs, c_js, r_map_some, e_need_t]
  all_goals rfl
theorem e_laws_eqHand (n : Nat) (axThing : Int) (axHolder : Int) (axWho : Int) (axAt : Int) (axSeal : Int) (bxThing : Int) (bxHolder : Int) (bxWho : Int) (bxAt : Int) (bxSeal : Int) : CP T (n + 1) 100 [.agg [.i .i64 axThing, .i .i64 axHolder, .i .i64 axWho, .i .i64 axAt, .i .i64 axSeal], .agg [.i .i64 bxThing, .i .i64 bxHolder, .i .i64 bxWho, .i .i64 bxAt, .i .i64 bxSeal]] = (laws_eqHand (⟨axThing, axHolder, axWho, axAt, axSeal⟩ : Hand) (⟨bxThing, bxHolder, bxWho, bxAt, bxSeal⟩ : Hand)).map fun r => .b r := by
  rw [CP_eq]
  simp -dsimp +contextual only [↓evA, evB, evT, tys, encs, Nat.reduceAdd, Nat.reduceMul, Nat.reduceBEq, Nat.reduceLeDiff, Nat.reduceLT, Try.func100, Try.f100, a100, TP, orc_p, orc_l]
  try simp only [laws_eqHand, evT, encs, c_js, r_map_some, e_need_t]
  all_goals rfl
theorem e_laws_eqHandS_l4 (n : Nat) {R1} {a : List Hand} {R2} {b : List Hand} (i : Int) [H1 : EncL cHand R1 a] [H2 : EncL cHand R2 b] : LP T (n + 2) 64 4 (frm [(0, .imm 5 R1), (1, .imm 5 R2), (5, .i .i64 i)]) [] =
    lmap (run (laws_eqHandS_l4 a b) i) (fun (zr : Bool) => (XE.ret, frm [(4, .b zr)], [])) (fun (zr : Unit) => (XE.exit 0, frm [], [])) := by
  obtain ⟨rfl⟩ := H1
  obtain ⟨rfl⟩ := H2
  rw [LP_eq]
  simp -dsimp only [↓evA, evB, lpG_eq, Try.func64, Try.f64, a64, TP, Nat.reduceAdd, Nat.reduceMul, Nat.reduceBEq, Nat.reduceLeDiff, Nat.reduceLT]
  refine run_map (fun (zs : Int) => (frm [(0, .imm 5 (a.map cHand)), (1, .imm 5 (b.map cHand)), (5, .i .i64 zs)], [])) (evO (fun (zr : Bool) => (XE.ret, frm [(4, .b zr)], [])) (fun (zr : Unit) => (XE.exit 0, frm [], []))) ?_ i
  intro i
  simp -dsimp +contextual only [↓evA, evB, evT, tys, encs, Nat.reduceAdd, Nat.reduceMul, Nat.reduceBEq, Nat.reduceLeDiff, Nat.reduceLT, TP, orc_p, orc_l, e_laws_eqHand]
  try simp only [laws_eqHandS_l4, evT, encs, c_js, r_map_some, e_need_t]
  all_goals rfl
theorem e_laws_eqHandS (n : Nat) {R1} {a : List Hand} {R2} {b : List Hand} [H1 : EncL cHand R1 a] [H2 : EncL cHand R2 b] : CP T (n + 3) 64 [.imm 5 R1, .imm 5 R2] = (laws_eqHandS a b).map fun r => .b r := by
  obtain ⟨rfl⟩ := H1
  obtain ⟨rfl⟩ := H2
  rw [CP_eq]
  simp -dsimp +contextual only [↓evA, evB, evT, tys, encs, Nat.reduceAdd, Nat.reduceMul, Nat.reduceBEq, Nat.reduceLeDiff, Nat.reduceLT, Try.func64, Try.f64, a64, TP, orc_p, orc_l, e_laws_eqHandS_l4]
  try simp only [laws_eqHandS, evT, encs, c_js, r_map_some, e_need_t]
  all_goals rfl
theorem e_laws_eqEntry (n : Nat) (axFrom : Int) (axTo : Int) (axCents : Int) (axAt : Int) (bxFrom : Int) (bxTo : Int) (bxCents : Int) (bxAt : Int) : CP T (n + 1) 101 [.agg [.i .i64 axFrom, .i .i64 axTo, .i .i64 axCents, .i .i64 axAt], .agg [.i .i64 bxFrom, .i .i64 bxTo, .i .i64 bxCents, .i .i64 bxAt]] = (laws_eqEntry (⟨axFrom, axTo, axCents, axAt⟩ : Entry) (⟨bxFrom, bxTo, bxCents, bxAt⟩ : Entry)).map fun r => .b r := by
  rw [CP_eq]
  simp -dsimp +contextual only [↓evA, evB, evT, tys, encs, Nat.reduceAdd, Nat.reduceMul, Nat.reduceBEq, Nat.reduceLeDiff, Nat.reduceLT, Try.func101, Try.f101, a101, TP, orc_p, orc_l]
  try simp only [laws_eqEntry, evT, encs, c_js, r_map_some, e_need_t]
  all_goals rfl
theorem e_laws_eqEntryS_l4 (n : Nat) {R1} {a : List Entry} {R2} {b : List Entry} (i : Int) [H1 : EncL cEntry R1 a] [H2 : EncL cEntry R2 b] : LP T (n + 2) 65 4 (frm [(0, .imm 4 R1), (1, .imm 4 R2), (5, .i .i64 i)]) [] =
    lmap (run (laws_eqEntryS_l4 a b) i) (fun (zr : Bool) => (XE.ret, frm [(4, .b zr)], [])) (fun (zr : Unit) => (XE.exit 0, frm [], [])) := by
  obtain ⟨rfl⟩ := H1
  obtain ⟨rfl⟩ := H2
  rw [LP_eq]
  simp -dsimp only [↓evA, evB, lpG_eq, Try.func65, Try.f65, a65, TP, Nat.reduceAdd, Nat.reduceMul, Nat.reduceBEq, Nat.reduceLeDiff, Nat.reduceLT]
  refine run_map (fun (zs : Int) => (frm [(0, .imm 4 (a.map cEntry)), (1, .imm 4 (b.map cEntry)), (5, .i .i64 zs)], [])) (evO (fun (zr : Bool) => (XE.ret, frm [(4, .b zr)], [])) (fun (zr : Unit) => (XE.exit 0, frm [], []))) ?_ i
  intro i
  simp -dsimp +contextual only [↓evA, evB, evT, tys, encs, Nat.reduceAdd, Nat.reduceMul, Nat.reduceBEq, Nat.reduceLeDiff, Nat.reduceLT, TP, orc_p, orc_l, e_laws_eqEntry]
  try simp only [laws_eqEntryS_l4, evT, encs, c_js, r_map_some, e_need_t]
  all_goals rfl
theorem e_laws_eqEntryS (n : Nat) {R1} {a : List Entry} {R2} {b : List Entry} [H1 : EncL cEntry R1 a] [H2 : EncL cEntry R2 b] : CP T (n + 3) 65 [.imm 4 R1, .imm 4 R2] = (laws_eqEntryS a b).map fun r => .b r := by
  obtain ⟨rfl⟩ := H1
  obtain ⟨rfl⟩ := H2
  rw [CP_eq]
  simp -dsimp +contextual only [↓evA, evB, evT, tys, encs, Nat.reduceAdd, Nat.reduceMul, Nat.reduceBEq, Nat.reduceLeDiff, Nat.reduceLT, Try.func65, Try.f65, a65, TP, orc_p, orc_l, e_laws_eqEntryS_l4]
  try simp only [laws_eqEntryS, evT, encs, c_js, r_map_some, e_need_t]
  all_goals rfl
theorem e_laws_eqHouse (n : Nat) (axNo : Int) {R1} {axFinds : List Find} {R2} {axSecrets : List Secret} {R3} {axSlots : List Slot} {R4} {axClaims : List Claim} {R5} {axTrials : List Trial} {R6} {axChain : List Hand} {R7} {axBook : List Entry} (axNow : Int) (bxNo : Int) {R8} {bxFinds : List Find} {R9} {bxSecrets : List Secret} {R10} {bxSlots : List Slot} {R11} {bxClaims : List Claim} {R12} {bxTrials : List Trial} {R13} {bxChain : List Hand} {R14} {bxBook : List Entry} (bxNow : Int) [H1 : EncL cFind R1 axFinds] [H2 : EncL cSecret R2 axSecrets] [H3 : EncL cSlot R3 axSlots] [H4 : EncL cClaim R4 axClaims] [H5 : EncL cTrial R5 axTrials] [H6 : EncL cHand R6 axChain] [H7 : EncL cEntry R7 axBook] [H8 : EncL cFind R8 bxFinds] [H9 : EncL cSecret R9 bxSecrets] [H10 : EncL cSlot R10 bxSlots] [H11 : EncL cClaim R11 bxClaims] [H12 : EncL cTrial R12 bxTrials] [H13 : EncL cHand R13 bxChain] [H14 : EncL cEntry R14 bxBook] : CP T (n + 7) 27 [.agg [.i .i64 axNo, .imm 8 R1, .imm 3 R2, .imm 3 R3, .imm 5 R4, .imm 4 R5, .imm 5 R6, .imm 4 R7, .i .i64 axNow], .agg [.i .i64 bxNo, .imm 8 R8, .imm 3 R9, .imm 3 R10, .imm 5 R11, .imm 4 R12, .imm 5 R13, .imm 4 R14, .i .i64 bxNow]] = (laws_eqHouse (⟨axNo, axFinds, axSecrets, axSlots, axClaims, axTrials, axChain, axBook, axNow⟩ : House) (⟨bxNo, bxFinds, bxSecrets, bxSlots, bxClaims, bxTrials, bxChain, bxBook, bxNow⟩ : House)).map fun r => .b r := by
  obtain ⟨rfl⟩ := H1
  obtain ⟨rfl⟩ := H2
  obtain ⟨rfl⟩ := H3
  obtain ⟨rfl⟩ := H4
  obtain ⟨rfl⟩ := H5
  obtain ⟨rfl⟩ := H6
  obtain ⟨rfl⟩ := H7
  obtain ⟨rfl⟩ := H8
  obtain ⟨rfl⟩ := H9
  obtain ⟨rfl⟩ := H10
  obtain ⟨rfl⟩ := H11
  obtain ⟨rfl⟩ := H12
  obtain ⟨rfl⟩ := H13
  obtain ⟨rfl⟩ := H14
  rw [CP_eq]
  simp -dsimp +contextual only [↓evA, evB, evT, tys, encs, Nat.reduceAdd, Nat.reduceMul, Nat.reduceBEq, Nat.reduceLeDiff, Nat.reduceLT, Try.func27, Try.f27, a27, TP, orc_p, orc_l, e_laws_eqFindS, e_laws_eqSecretS, e_laws_eqSlotS, e_laws_eqClaimS, e_laws_eqTrialS, e_laws_eqHandS, e_laws_eqEntryS]
  try simp only [laws_eqHouse, evT, encs, c_js, r_map_some, e_need_t]
  all_goals rfl
theorem e_laws_FnExactServedShare (n : Nat) (aHxNo : Int) {R1} {aHxFinds : List Find} {R2} {aHxSecrets : List Secret} {R3} {aHxSlots : List Slot} {R4} {aHxClaims : List Claim} {R5} {aHxTrials : List Trial} {R6} {aHxChain : List Hand} {R7} {aHxBook : List Entry} (aHxNow : Int) [H1 : EncL cFind R1 aHxFinds] [H2 : EncL cSecret R2 aHxSecrets] [H3 : EncL cSlot R3 aHxSlots] [H4 : EncL cClaim R4 aHxClaims] [H5 : EncL cTrial R5 aHxTrials] [H6 : EncL cHand R6 aHxChain] [H7 : EncL cEntry R7 aHxBook] : CP T (n + 8) 4 [.agg [.i .i64 aHxNo, .imm 8 R1, .imm 3 R2, .imm 3 R3, .imm 5 R4, .imm 4 R5, .imm 5 R6, .imm 4 R7, .i .i64 aHxNow]] = (laws_FnExactServedShare (⟨aHxNo, aHxFinds, aHxSecrets, aHxSlots, aHxClaims, aHxTrials, aHxChain, aHxBook, aHxNow⟩ : House)).map fun r => .b r := by
  obtain ⟨rfl⟩ := H1
  obtain ⟨rfl⟩ := H2
  obtain ⟨rfl⟩ := H3
  obtain ⟨rfl⟩ := H4
  obtain ⟨rfl⟩ := H5
  obtain ⟨rfl⟩ := H6
  obtain ⟨rfl⟩ := H7
  rw [CP_eq]
  simp -dsimp +contextual only [↓evA, evB, evT, tys, encs, Nat.reduceAdd, Nat.reduceMul, Nat.reduceBEq, Nat.reduceLeDiff, Nat.reduceLT, Try.func4, Try.f4, a4, TP, orc_p, orc_l, e_laws_szHouse, e_laws_toHouse, e_spec_ServedShare, e_impl_ServedShare, e_laws_eqHouse]
  try simp only [laws_FnExactServedShare, evT, encs, c_js, r_map_some, e_need_t]
  all_goals rfl
theorem e_spec_TrialOf_l2 (n : Nat) (claim : Int) (vhxNo : Int) {R1} {vhxFinds : List Find} {R2} {vhxSecrets : List Secret} {R3} {vhxSlots : List Slot} {R4} {vhxClaims : List Claim} {R5} {vhxTrials : List Trial} {R6} {vhxChain : List Hand} {R7} {vhxBook : List Entry} (vhxNow : Int) (t4xClaim : Int) (t4xAsked : Int) (t4xRight : Int) (t4xWrong : Int) (i : Int) [H1 : EncL cFind R1 vhxFinds] [H2 : EncL cSecret R2 vhxSecrets] [H3 : EncL cSlot R3 vhxSlots] [H4 : EncL cClaim R4 vhxClaims] [H5 : EncL cTrial R5 vhxTrials] [H6 : EncL cHand R6 vhxChain] [H7 : EncL cEntry R7 vhxBook] : LP T (n + 1) 28 2 (frm [(1, .i .i64 claim), (2, .ptr 0 0 0), (4, .ptr 1 0 0), (6, .i .i64 i)]) [some (Ent.box [.i .i64 vhxNo, .imm 8 R1, .imm 3 R2, .imm 3 R3, .imm 5 R4, .imm 4 R5, .imm 5 R6, .imm 4 R7, .i .i64 vhxNow]), some (Ent.box [.i .i64 t4xClaim, .i .i64 t4xAsked, .i .i64 t4xRight, .i .i64 t4xWrong])] =
    lmap (run (spec_TrialOf_l2 claim (⟨vhxNo, vhxFinds, vhxSecrets, vhxSlots, vhxClaims, vhxTrials, vhxChain, vhxBook, vhxNow⟩ : House) (⟨t4xClaim, t4xAsked, t4xRight, t4xWrong⟩ : Trial)) i) (fun (zr : Trial × Bool) => (XE.ret, frm [(4, .ptr 0 0 0), (5, .b zr.2)], [some (Ent.box [.i .i64 zr.1.Claim, .i .i64 zr.1.Asked, .i .i64 zr.1.Right, .i .i64 zr.1.Wrong])])) (fun (zr : Unit) => (XE.exit 0, frm [(4, .ptr 0 0 0)], [some (Ent.box [.i .i64 (⟨t4xClaim, t4xAsked, t4xRight, t4xWrong⟩ : Trial).Claim, .i .i64 (⟨t4xClaim, t4xAsked, t4xRight, t4xWrong⟩ : Trial).Asked, .i .i64 (⟨t4xClaim, t4xAsked, t4xRight, t4xWrong⟩ : Trial).Right, .i .i64 (⟨t4xClaim, t4xAsked, t4xRight, t4xWrong⟩ : Trial).Wrong])])) := by
  obtain ⟨rfl⟩ := H1
  obtain ⟨rfl⟩ := H2
  obtain ⟨rfl⟩ := H3
  obtain ⟨rfl⟩ := H4
  obtain ⟨rfl⟩ := H5
  obtain ⟨rfl⟩ := H6
  obtain ⟨rfl⟩ := H7
  rw [LP_eq]
  simp -dsimp only [↓evA, evB, lpG_eq, Try.func28, Try.f28, a28, TP, Nat.reduceAdd, Nat.reduceMul, Nat.reduceBEq, Nat.reduceLeDiff, Nat.reduceLT]
  refine run_map (fun (zs : Int) => (frm [(1, .i .i64 claim), (2, .ptr 0 0 0), (4, .ptr 1 0 0), (6, .i .i64 zs)], [some (Ent.box [.i .i64 (⟨vhxNo, vhxFinds, vhxSecrets, vhxSlots, vhxClaims, vhxTrials, vhxChain, vhxBook, vhxNow⟩ : House).No, .imm 8 ((⟨vhxNo, vhxFinds, vhxSecrets, vhxSlots, vhxClaims, vhxTrials, vhxChain, vhxBook, vhxNow⟩ : House).Finds.map cFind), .imm 3 ((⟨vhxNo, vhxFinds, vhxSecrets, vhxSlots, vhxClaims, vhxTrials, vhxChain, vhxBook, vhxNow⟩ : House).Secrets.map cSecret), .imm 3 ((⟨vhxNo, vhxFinds, vhxSecrets, vhxSlots, vhxClaims, vhxTrials, vhxChain, vhxBook, vhxNow⟩ : House).Slots.map cSlot), .imm 5 ((⟨vhxNo, vhxFinds, vhxSecrets, vhxSlots, vhxClaims, vhxTrials, vhxChain, vhxBook, vhxNow⟩ : House).Claims.map cClaim), .imm 4 ((⟨vhxNo, vhxFinds, vhxSecrets, vhxSlots, vhxClaims, vhxTrials, vhxChain, vhxBook, vhxNow⟩ : House).Trials.map cTrial), .imm 5 ((⟨vhxNo, vhxFinds, vhxSecrets, vhxSlots, vhxClaims, vhxTrials, vhxChain, vhxBook, vhxNow⟩ : House).Chain.map cHand), .imm 4 ((⟨vhxNo, vhxFinds, vhxSecrets, vhxSlots, vhxClaims, vhxTrials, vhxChain, vhxBook, vhxNow⟩ : House).Book.map cEntry), .i .i64 (⟨vhxNo, vhxFinds, vhxSecrets, vhxSlots, vhxClaims, vhxTrials, vhxChain, vhxBook, vhxNow⟩ : House).Now]), some (Ent.box [.i .i64 (⟨t4xClaim, t4xAsked, t4xRight, t4xWrong⟩ : Trial).Claim, .i .i64 (⟨t4xClaim, t4xAsked, t4xRight, t4xWrong⟩ : Trial).Asked, .i .i64 (⟨t4xClaim, t4xAsked, t4xRight, t4xWrong⟩ : Trial).Right, .i .i64 (⟨t4xClaim, t4xAsked, t4xRight, t4xWrong⟩ : Trial).Wrong])])) (evO (fun (zr : Trial × Bool) => (XE.ret, frm [(4, .ptr 0 0 0), (5, .b zr.2)], [some (Ent.box [.i .i64 zr.1.Claim, .i .i64 zr.1.Asked, .i .i64 zr.1.Right, .i .i64 zr.1.Wrong])])) (fun (zr : Unit) => (XE.exit 0, frm [(4, .ptr 0 0 0)], [some (Ent.box [.i .i64 (⟨t4xClaim, t4xAsked, t4xRight, t4xWrong⟩ : Trial).Claim, .i .i64 (⟨t4xClaim, t4xAsked, t4xRight, t4xWrong⟩ : Trial).Asked, .i .i64 (⟨t4xClaim, t4xAsked, t4xRight, t4xWrong⟩ : Trial).Right, .i .i64 (⟨t4xClaim, t4xAsked, t4xRight, t4xWrong⟩ : Trial).Wrong])]))) ?_ i
  intro i
  simp -dsimp +contextual only [↓evA, evB, evT, tys, encs, Nat.reduceAdd, Nat.reduceMul, Nat.reduceBEq, Nat.reduceLeDiff, Nat.reduceLT, TP, orc_p, orc_l]
  try simp only [spec_TrialOf_l2, evT, encs, c_js, r_map_some, e_need_t]
  all_goals rfl
theorem e_spec_TrialOf (n : Nat) (vhxNo : Int) {R1} {vhxFinds : List Find} {R2} {vhxSecrets : List Secret} {R3} {vhxSlots : List Slot} {R4} {vhxClaims : List Claim} {R5} {vhxTrials : List Trial} {R6} {vhxChain : List Hand} {R7} {vhxBook : List Entry} (vhxNow : Int) (claim : Int) [H1 : EncL cFind R1 vhxFinds] [H2 : EncL cSecret R2 vhxSecrets] [H3 : EncL cSlot R3 vhxSlots] [H4 : EncL cClaim R4 vhxClaims] [H5 : EncL cTrial R5 vhxTrials] [H6 : EncL cHand R6 vhxChain] [H7 : EncL cEntry R7 vhxBook] : CP T (n + 2) 28 [.agg [.i .i64 vhxNo, .imm 8 R1, .imm 3 R2, .imm 3 R3, .imm 5 R4, .imm 4 R5, .imm 5 R6, .imm 4 R7, .i .i64 vhxNow], .i .i64 claim] = (spec_TrialOf (⟨vhxNo, vhxFinds, vhxSecrets, vhxSlots, vhxClaims, vhxTrials, vhxChain, vhxBook, vhxNow⟩ : House) claim).map fun r => .tup [.agg (cTrial r.1), .b r.2] := by
  obtain ⟨rfl⟩ := H1
  obtain ⟨rfl⟩ := H2
  obtain ⟨rfl⟩ := H3
  obtain ⟨rfl⟩ := H4
  obtain ⟨rfl⟩ := H5
  obtain ⟨rfl⟩ := H6
  obtain ⟨rfl⟩ := H7
  rw [CP_eq]
  simp -dsimp +contextual only [↓evA, evB, evT, tys, encs, Nat.reduceAdd, Nat.reduceMul, Nat.reduceBEq, Nat.reduceLeDiff, Nat.reduceLT, Try.func28, Try.f28, a28, TP, orc_p, orc_l, e_spec_TrialOf_l2]
  try simp only [spec_TrialOf, evT, encs, c_js, r_map_some, e_need_t]
  all_goals rfl
theorem e_impl_trialAt_1 (n : Nat) (xxClaim : Int) (xxAsked : Int) (xxRight : Int) (xxWrong : Int) (c : Int) : CP T (n + 1) 103 [.agg [.i .i64 xxClaim, .i .i64 xxAsked, .i .i64 xxRight, .i .i64 xxWrong], .iptr 1 [[.i .i64 c]] 0 0] = (impl_trialAt_1 (⟨xxClaim, xxAsked, xxRight, xxWrong⟩ : Trial) c).map fun r => .b r := by
  rw [CP_eq]
  simp -dsimp +contextual only [↓evA, evB, evT, tys, encs, Nat.reduceAdd, Nat.reduceMul, Nat.reduceBEq, Nat.reduceLeDiff, Nat.reduceLT, Try.func103, Try.f103, a103, TP, orc_p, orc_l]
  try simp only [impl_trialAt_1, evT, encs, c_js, r_map_some, e_need_t]
  all_goals rfl
theorem e_slices_IndexFunc_Trial_c103_l2 (n : Nat) {R1} {s : List Trial} (f : Int) (t7 : Int) (t8 : Int) [H1 : EncL cTrial R1 s] : LP T (n + 2) 102 2 (frm [(0, .imm 4 R1), (1, .clo 103 [.iptr 1 [[.i .i64 f]] 0 0]), (7, .i .i64 t7), (8, .i .i64 t8)]) [] =
    lmap (run (slices_IndexFunc_Trial_c103_l2 s f t7) t8) (fun (zr : Int) => (XE.ret, frm [(4, .i .i64 zr)], [])) (fun (zr : Unit) => (XE.exit 0, frm [], [])) := by
  obtain ⟨rfl⟩ := H1
  rw [LP_eq]
  simp -dsimp only [↓evA, evB, lpG_eq, Try.func102, Try.f102, a102, TP, Nat.reduceAdd, Nat.reduceMul, Nat.reduceBEq, Nat.reduceLeDiff, Nat.reduceLT]
  refine run_map (fun (zs : Int) => (frm [(0, .imm 4 (s.map cTrial)), (1, .clo 103 [.iptr 1 [[.i .i64 f]] 0 0]), (7, .i .i64 t7), (8, .i .i64 zs)], [])) (evO (fun (zr : Int) => (XE.ret, frm [(4, .i .i64 zr)], [])) (fun (zr : Unit) => (XE.exit 0, frm [], []))) ?_ t8
  intro t8
  simp -dsimp +contextual only [↓evA, evB, evT, tys, encs, Nat.reduceAdd, Nat.reduceMul, Nat.reduceBEq, Nat.reduceLeDiff, Nat.reduceLT, TP, orc_p, orc_l, e_impl_trialAt_1]
  try simp only [slices_IndexFunc_Trial_c103_l2, evT, encs, c_js, r_map_some, e_need_t]
  all_goals rfl
theorem e_slices_IndexFunc_Trial_c103 (n : Nat) {R1} {s : List Trial} (c : Int) [H1 : EncL cTrial R1 s] : CP T (n + 3) 102 [.imm 4 R1, .clo 103 [.iptr 1 [[.i .i64 c]] 0 0]] = (slices_IndexFunc_Trial_c103 s c).map fun r => .i .i64 r := by
  obtain ⟨rfl⟩ := H1
  rw [CP_eq]
  simp -dsimp +contextual only [↓evA, evB, evT, tys, encs, Nat.reduceAdd, Nat.reduceMul, Nat.reduceBEq, Nat.reduceLeDiff, Nat.reduceLT, Try.func102, Try.f102, a102, TP, orc_p, orc_l, e_slices_IndexFunc_Trial_c103_l2]
  try simp only [slices_IndexFunc_Trial_c103, evT, encs, c_js, r_map_some, e_need_t]
  all_goals rfl
theorem e_impl_trialAt (n : Nat) (vhxNo : Int) {R1} {vhxFinds : List Find} {R2} {vhxSecrets : List Secret} {R3} {vhxSlots : List Slot} {R4} {vhxClaims : List Claim} {R5} {vhxTrials : List Trial} {R6} {vhxChain : List Hand} {R7} {vhxBook : List Entry} (vhxNow : Int) (claim : Int) [H1 : EncL cFind R1 vhxFinds] [H2 : EncL cSecret R2 vhxSecrets] [H3 : EncL cSlot R3 vhxSlots] [H4 : EncL cClaim R4 vhxClaims] [H5 : EncL cTrial R5 vhxTrials] [H6 : EncL cHand R6 vhxChain] [H7 : EncL cEntry R7 vhxBook] : CP T (n + 4) 66 [.agg [.i .i64 vhxNo, .imm 8 R1, .imm 3 R2, .imm 3 R3, .imm 5 R4, .imm 4 R5, .imm 5 R6, .imm 4 R7, .i .i64 vhxNow], .i .i64 claim] = (impl_trialAt (⟨vhxNo, vhxFinds, vhxSecrets, vhxSlots, vhxClaims, vhxTrials, vhxChain, vhxBook, vhxNow⟩ : House) claim).map fun r => .i .i64 r := by
  obtain ⟨rfl⟩ := H1
  obtain ⟨rfl⟩ := H2
  obtain ⟨rfl⟩ := H3
  obtain ⟨rfl⟩ := H4
  obtain ⟨rfl⟩ := H5
  obtain ⟨rfl⟩ := H6
  obtain ⟨rfl⟩ := H7
  rw [CP_eq]
  simp -dsimp +contextual only [↓evA, evB, evT, tys, encs, Nat.reduceAdd, Nat.reduceMul, Nat.reduceBEq, Nat.reduceLeDiff, Nat.reduceLT, Try.func66, Try.f66, a66, TP, orc_p, orc_l, e_slices_IndexFunc_Trial_c103]
  try simp only [impl_trialAt, evT, encs, c_js, r_map_some, e_need_t]
  all_goals rfl
theorem e_impl_TrialOf (n : Nat) (vhxNo : Int) {R1} {vhxFinds : List Find} {R2} {vhxSecrets : List Secret} {R3} {vhxSlots : List Slot} {R4} {vhxClaims : List Claim} {R5} {vhxTrials : List Trial} {R6} {vhxChain : List Hand} {R7} {vhxBook : List Entry} (vhxNow : Int) (claim : Int) [H1 : EncL cFind R1 vhxFinds] [H2 : EncL cSecret R2 vhxSecrets] [H3 : EncL cSlot R3 vhxSlots] [H4 : EncL cClaim R4 vhxClaims] [H5 : EncL cTrial R5 vhxTrials] [H6 : EncL cHand R6 vhxChain] [H7 : EncL cEntry R7 vhxBook] : CP T (n + 5) 29 [.agg [.i .i64 vhxNo, .imm 8 R1, .imm 3 R2, .imm 3 R3, .imm 5 R4, .imm 4 R5, .imm 5 R6, .imm 4 R7, .i .i64 vhxNow], .i .i64 claim] = (impl_TrialOf (⟨vhxNo, vhxFinds, vhxSecrets, vhxSlots, vhxClaims, vhxTrials, vhxChain, vhxBook, vhxNow⟩ : House) claim).map fun r => .tup [.agg (cTrial r.1), .b r.2] := by
  obtain ⟨rfl⟩ := H1
  obtain ⟨rfl⟩ := H2
  obtain ⟨rfl⟩ := H3
  obtain ⟨rfl⟩ := H4
  obtain ⟨rfl⟩ := H5
  obtain ⟨rfl⟩ := H6
  obtain ⟨rfl⟩ := H7
  rw [CP_eq]
  simp -dsimp +contextual only [↓evA, evB, evT, tys, encs, Nat.reduceAdd, Nat.reduceMul, Nat.reduceBEq, Nat.reduceLeDiff, Nat.reduceLT, Try.func29, Try.f29, a29, TP, orc_p, orc_l, e_impl_trialAt]
  try simp only [impl_TrialOf, evT, encs, c_js, r_map_some, e_need_t]
  all_goals rfl
theorem e_laws_FnExactTrialOf (n : Nat) (aHxNo : Int) {R1} {aHxFinds : List Find} {R2} {aHxSecrets : List Secret} {R3} {aHxSlots : List Slot} {R4} {aHxClaims : List Claim} {R5} {aHxTrials : List Trial} {R6} {aHxChain : List Hand} {R7} {aHxBook : List Entry} (aHxNow : Int) (aClaim : Int) [H1 : EncL cFind R1 aHxFinds] [H2 : EncL cSecret R2 aHxSecrets] [H3 : EncL cSlot R3 aHxSlots] [H4 : EncL cClaim R4 aHxClaims] [H5 : EncL cTrial R5 aHxTrials] [H6 : EncL cHand R6 aHxChain] [H7 : EncL cEntry R7 aHxBook] : CP T (n + 8) 5 [.agg [.i .i64 aHxNo, .imm 8 R1, .imm 3 R2, .imm 3 R3, .imm 5 R4, .imm 4 R5, .imm 5 R6, .imm 4 R7, .i .i64 aHxNow], .i .i64 aClaim] = (laws_FnExactTrialOf (⟨aHxNo, aHxFinds, aHxSecrets, aHxSlots, aHxClaims, aHxTrials, aHxChain, aHxBook, aHxNow⟩ : House) aClaim).map fun r => .b r := by
  obtain ⟨rfl⟩ := H1
  obtain ⟨rfl⟩ := H2
  obtain ⟨rfl⟩ := H3
  obtain ⟨rfl⟩ := H4
  obtain ⟨rfl⟩ := H5
  obtain ⟨rfl⟩ := H6
  obtain ⟨rfl⟩ := H7
  rw [CP_eq]
  simp -dsimp +contextual only [↓evA, evB, evT, tys, encs, Nat.reduceAdd, Nat.reduceMul, Nat.reduceBEq, Nat.reduceLeDiff, Nat.reduceLT, Try.func5, Try.f5, a5, TP, orc_p, orc_l, e_laws_szHouse, e_laws_toHouse, e_spec_TrialOf, e_impl_TrialOf, e_laws_eqTrial, e_laws_eqHouse]
  try simp only [laws_FnExactTrialOf, evT, encs, c_js, r_map_some, e_need_t]
  all_goals rfl
theorem e_spec_FindThing_l2 (n : Nat) {R1} {l : List Find} (id : Int) (i : Int) [H1 : EncL cFind R1 l] : LP T (n + 1) 67 2 (frm [(0, .imm 8 R1), (1, .i .i64 id), (5, .i .i64 i)]) [] =
    lmap (run (spec_FindThing_l2 l id) i) (fun (zr : Int) => (XE.ret, frm [(4, .i .i64 zr)], [])) (fun (zr : Unit) => (XE.exit 0, frm [], [])) := by
  obtain ⟨rfl⟩ := H1
  rw [LP_eq]
  simp -dsimp only [↓evA, evB, lpG_eq, Try.func67, Try.f67, a67, TP, Nat.reduceAdd, Nat.reduceMul, Nat.reduceBEq, Nat.reduceLeDiff, Nat.reduceLT]
  refine run_map (fun (zs : Int) => (frm [(0, .imm 8 (l.map cFind)), (1, .i .i64 id), (5, .i .i64 zs)], [])) (evO (fun (zr : Int) => (XE.ret, frm [(4, .i .i64 zr)], [])) (fun (zr : Unit) => (XE.exit 0, frm [], []))) ?_ i
  intro i
  simp -dsimp +contextual only [↓evA, evB, evT, tys, encs, Nat.reduceAdd, Nat.reduceMul, Nat.reduceBEq, Nat.reduceLeDiff, Nat.reduceLT, TP, orc_p, orc_l]
  try simp only [spec_FindThing_l2, evT, encs, c_js, r_map_some, e_need_t]
  all_goals rfl
theorem e_spec_FindThing (n : Nat) {R1} {l : List Find} (id : Int) [H1 : EncL cFind R1 l] : CP T (n + 2) 67 [.imm 8 R1, .i .i64 id] = (spec_FindThing l id).map fun r => .i .i64 r := by
  obtain ⟨rfl⟩ := H1
  rw [CP_eq]
  simp -dsimp +contextual only [↓evA, evB, evT, tys, encs, Nat.reduceAdd, Nat.reduceMul, Nat.reduceBEq, Nat.reduceLeDiff, Nat.reduceLT, Try.func67, Try.f67, a67, TP, orc_p, orc_l, e_spec_FindThing_l2]
  try simp only [spec_FindThing, evT, encs, c_js, r_map_some, e_need_t]
  all_goals rfl
theorem e_spec_l36Claimed_l2 (n : Nat) (vhxNo : Int) {R1} {vhxFinds : List Find} {R2} {vhxSecrets : List Secret} {R3} {vhxSlots : List Slot} {R4} {vhxClaims : List Claim} {R5} {vhxTrials : List Trial} {R6} {vhxChain : List Hand} {R7} {vhxBook : List Entry} (vhxNow : Int) (xxThing : Int) (xxHolder : Int) (xxWho : Int) (xxAt : Int) (xxSeal : Int) (i : Int) [H1 : EncL cFind R1 vhxFinds] [H2 : EncL cSecret R2 vhxSecrets] [H3 : EncL cSlot R3 vhxSlots] [H4 : EncL cClaim R4 vhxClaims] [H5 : EncL cTrial R5 vhxTrials] [H6 : EncL cHand R6 vhxChain] [H7 : EncL cEntry R7 vhxBook] : LP T (n + 1) 68 2 (frm [(2, .ptr 0 0 0), (3, .ptr 1 0 0), (5, .i .i64 i)]) [some (Ent.box [.i .i64 vhxNo, .imm 8 R1, .imm 3 R2, .imm 3 R3, .imm 5 R4, .imm 4 R5, .imm 5 R6, .imm 4 R7, .i .i64 vhxNow]), some (Ent.box [.i .i64 xxThing, .i .i64 xxHolder, .i .i64 xxWho, .i .i64 xxAt, .i .i64 xxSeal])] =
    lmap (run (spec_l36Claimed_l2 (⟨vhxNo, vhxFinds, vhxSecrets, vhxSlots, vhxClaims, vhxTrials, vhxChain, vhxBook, vhxNow⟩ : House) (⟨xxThing, xxHolder, xxWho, xxAt, xxSeal⟩ : Hand)) i) (fun (zr : Bool) => (XE.ret, frm [(4, .b zr)], [])) (fun (zr : Unit) => (XE.exit 0, frm [], [])) := by
  obtain ⟨rfl⟩ := H1
  obtain ⟨rfl⟩ := H2
  obtain ⟨rfl⟩ := H3
  obtain ⟨rfl⟩ := H4
  obtain ⟨rfl⟩ := H5
  obtain ⟨rfl⟩ := H6
  obtain ⟨rfl⟩ := H7
  rw [LP_eq]
  simp -dsimp only [↓evA, evB, lpG_eq, Try.func68, Try.f68, a68, TP, Nat.reduceAdd, Nat.reduceMul, Nat.reduceBEq, Nat.reduceLeDiff, Nat.reduceLT]
  refine run_map (fun (zs : Int) => (frm [(2, .ptr 0 0 0), (3, .ptr 1 0 0), (5, .i .i64 zs)], [some (Ent.box [.i .i64 (⟨vhxNo, vhxFinds, vhxSecrets, vhxSlots, vhxClaims, vhxTrials, vhxChain, vhxBook, vhxNow⟩ : House).No, .imm 8 ((⟨vhxNo, vhxFinds, vhxSecrets, vhxSlots, vhxClaims, vhxTrials, vhxChain, vhxBook, vhxNow⟩ : House).Finds.map cFind), .imm 3 ((⟨vhxNo, vhxFinds, vhxSecrets, vhxSlots, vhxClaims, vhxTrials, vhxChain, vhxBook, vhxNow⟩ : House).Secrets.map cSecret), .imm 3 ((⟨vhxNo, vhxFinds, vhxSecrets, vhxSlots, vhxClaims, vhxTrials, vhxChain, vhxBook, vhxNow⟩ : House).Slots.map cSlot), .imm 5 ((⟨vhxNo, vhxFinds, vhxSecrets, vhxSlots, vhxClaims, vhxTrials, vhxChain, vhxBook, vhxNow⟩ : House).Claims.map cClaim), .imm 4 ((⟨vhxNo, vhxFinds, vhxSecrets, vhxSlots, vhxClaims, vhxTrials, vhxChain, vhxBook, vhxNow⟩ : House).Trials.map cTrial), .imm 5 ((⟨vhxNo, vhxFinds, vhxSecrets, vhxSlots, vhxClaims, vhxTrials, vhxChain, vhxBook, vhxNow⟩ : House).Chain.map cHand), .imm 4 ((⟨vhxNo, vhxFinds, vhxSecrets, vhxSlots, vhxClaims, vhxTrials, vhxChain, vhxBook, vhxNow⟩ : House).Book.map cEntry), .i .i64 (⟨vhxNo, vhxFinds, vhxSecrets, vhxSlots, vhxClaims, vhxTrials, vhxChain, vhxBook, vhxNow⟩ : House).Now]), some (Ent.box [.i .i64 (⟨xxThing, xxHolder, xxWho, xxAt, xxSeal⟩ : Hand).Thing, .i .i64 (⟨xxThing, xxHolder, xxWho, xxAt, xxSeal⟩ : Hand).Holder, .i .i64 (⟨xxThing, xxHolder, xxWho, xxAt, xxSeal⟩ : Hand).Who, .i .i64 (⟨xxThing, xxHolder, xxWho, xxAt, xxSeal⟩ : Hand).At, .i .i64 (⟨xxThing, xxHolder, xxWho, xxAt, xxSeal⟩ : Hand).Seal])])) (evO (fun (zr : Bool) => (XE.ret, frm [(4, .b zr)], [])) (fun (zr : Unit) => (XE.exit 0, frm [], []))) ?_ i
  intro i
  simp -dsimp +contextual only [↓evA, evB, evT, tys, encs, Nat.reduceAdd, Nat.reduceMul, Nat.reduceBEq, Nat.reduceLeDiff, Nat.reduceLT, TP, orc_p, orc_l]
  try simp only [spec_l36Claimed_l2, evT, encs, c_js, r_map_some, e_need_t]
  all_goals rfl
theorem e_spec_l36Claimed (n : Nat) (vhxNo : Int) {R1} {vhxFinds : List Find} {R2} {vhxSecrets : List Secret} {R3} {vhxSlots : List Slot} {R4} {vhxClaims : List Claim} {R5} {vhxTrials : List Trial} {R6} {vhxChain : List Hand} {R7} {vhxBook : List Entry} (vhxNow : Int) (xxThing : Int) (xxHolder : Int) (xxWho : Int) (xxAt : Int) (xxSeal : Int) [H1 : EncL cFind R1 vhxFinds] [H2 : EncL cSecret R2 vhxSecrets] [H3 : EncL cSlot R3 vhxSlots] [H4 : EncL cClaim R4 vhxClaims] [H5 : EncL cTrial R5 vhxTrials] [H6 : EncL cHand R6 vhxChain] [H7 : EncL cEntry R7 vhxBook] : CP T (n + 2) 68 [.agg [.i .i64 vhxNo, .imm 8 R1, .imm 3 R2, .imm 3 R3, .imm 5 R4, .imm 4 R5, .imm 5 R6, .imm 4 R7, .i .i64 vhxNow], .agg [.i .i64 xxThing, .i .i64 xxHolder, .i .i64 xxWho, .i .i64 xxAt, .i .i64 xxSeal]] = (spec_l36Claimed (⟨vhxNo, vhxFinds, vhxSecrets, vhxSlots, vhxClaims, vhxTrials, vhxChain, vhxBook, vhxNow⟩ : House) (⟨xxThing, xxHolder, xxWho, xxAt, xxSeal⟩ : Hand)).map fun r => .b r := by
  obtain ⟨rfl⟩ := H1
  obtain ⟨rfl⟩ := H2
  obtain ⟨rfl⟩ := H3
  obtain ⟨rfl⟩ := H4
  obtain ⟨rfl⟩ := H5
  obtain ⟨rfl⟩ := H6
  obtain ⟨rfl⟩ := H7
  rw [CP_eq]
  simp -dsimp +contextual only [↓evA, evB, evT, tys, encs, Nat.reduceAdd, Nat.reduceMul, Nat.reduceBEq, Nat.reduceLeDiff, Nat.reduceLT, Try.func68, Try.f68, a68, TP, orc_p, orc_l, e_spec_l36Claimed_l2]
  try simp only [spec_l36Claimed, evT, encs, c_js, r_map_some, e_need_t]
  all_goals rfl
theorem e_spec_AreOwners_l2 (n : Nat) (vhxNo : Int) {R1} {vhxFinds : List Find} {R2} {vhxSecrets : List Secret} {R3} {vhxSlots : List Slot} {R4} {vhxClaims : List Claim} {R5} {vhxTrials : List Trial} {R6} {vhxChain : List Hand} {R7} {vhxBook : List Entry} (vhxNow : Int) (i : Int) [H1 : EncL cFind R1 vhxFinds] [H2 : EncL cSecret R2 vhxSecrets] [H3 : EncL cSlot R3 vhxSlots] [H4 : EncL cClaim R4 vhxClaims] [H5 : EncL cTrial R5 vhxTrials] [H6 : EncL cHand R6 vhxChain] [H7 : EncL cEntry R7 vhxBook] : LP T (n + 3) 31 2 (frm [(1, .ptr 0 0 0), (3, .i .i64 i)]) [some (Ent.box [.i .i64 vhxNo, .imm 8 R1, .imm 3 R2, .imm 3 R3, .imm 5 R4, .imm 4 R5, .imm 5 R6, .imm 4 R7, .i .i64 vhxNow])] =
    lmap (run (spec_AreOwners_l2 (⟨vhxNo, vhxFinds, vhxSecrets, vhxSlots, vhxClaims, vhxTrials, vhxChain, vhxBook, vhxNow⟩ : House)) i) (fun (zr : Bool) => (XE.ret, frm [(2, .b zr)], [])) (fun (zr : Unit) => (XE.exit 0, frm [], [])) := by
  obtain ⟨rfl⟩ := H1
  obtain ⟨rfl⟩ := H2
  obtain ⟨rfl⟩ := H3
  obtain ⟨rfl⟩ := H4
  obtain ⟨rfl⟩ := H5
  obtain ⟨rfl⟩ := H6
  obtain ⟨rfl⟩ := H7
  rw [LP_eq]
  simp -dsimp only [↓evA, evB, lpG_eq, Try.func31, Try.f31, a31, TP, Nat.reduceAdd, Nat.reduceMul, Nat.reduceBEq, Nat.reduceLeDiff, Nat.reduceLT]
  refine run_map (fun (zs : Int) => (frm [(1, .ptr 0 0 0), (3, .i .i64 zs)], [some (Ent.box [.i .i64 (⟨vhxNo, vhxFinds, vhxSecrets, vhxSlots, vhxClaims, vhxTrials, vhxChain, vhxBook, vhxNow⟩ : House).No, .imm 8 ((⟨vhxNo, vhxFinds, vhxSecrets, vhxSlots, vhxClaims, vhxTrials, vhxChain, vhxBook, vhxNow⟩ : House).Finds.map cFind), .imm 3 ((⟨vhxNo, vhxFinds, vhxSecrets, vhxSlots, vhxClaims, vhxTrials, vhxChain, vhxBook, vhxNow⟩ : House).Secrets.map cSecret), .imm 3 ((⟨vhxNo, vhxFinds, vhxSecrets, vhxSlots, vhxClaims, vhxTrials, vhxChain, vhxBook, vhxNow⟩ : House).Slots.map cSlot), .imm 5 ((⟨vhxNo, vhxFinds, vhxSecrets, vhxSlots, vhxClaims, vhxTrials, vhxChain, vhxBook, vhxNow⟩ : House).Claims.map cClaim), .imm 4 ((⟨vhxNo, vhxFinds, vhxSecrets, vhxSlots, vhxClaims, vhxTrials, vhxChain, vhxBook, vhxNow⟩ : House).Trials.map cTrial), .imm 5 ((⟨vhxNo, vhxFinds, vhxSecrets, vhxSlots, vhxClaims, vhxTrials, vhxChain, vhxBook, vhxNow⟩ : House).Chain.map cHand), .imm 4 ((⟨vhxNo, vhxFinds, vhxSecrets, vhxSlots, vhxClaims, vhxTrials, vhxChain, vhxBook, vhxNow⟩ : House).Book.map cEntry), .i .i64 (⟨vhxNo, vhxFinds, vhxSecrets, vhxSlots, vhxClaims, vhxTrials, vhxChain, vhxBook, vhxNow⟩ : House).Now])])) (evO (fun (zr : Bool) => (XE.ret, frm [(2, .b zr)], [])) (fun (zr : Unit) => (XE.exit 0, frm [], []))) ?_ i
  intro i
  simp -dsimp +contextual only [↓evA, evB, evT, tys, encs, Nat.reduceAdd, Nat.reduceMul, Nat.reduceBEq, Nat.reduceLeDiff, Nat.reduceLT, TP, orc_p, orc_l, e_spec_FindThing, e_spec_l36Claimed]
  try simp only [spec_AreOwners_l2, evT, encs, c_js, r_map_some, e_need_t]
  all_goals rfl
theorem e_spec_AreOwners (n : Nat) (vhxNo : Int) {R1} {vhxFinds : List Find} {R2} {vhxSecrets : List Secret} {R3} {vhxSlots : List Slot} {R4} {vhxClaims : List Claim} {R5} {vhxTrials : List Trial} {R6} {vhxChain : List Hand} {R7} {vhxBook : List Entry} (vhxNow : Int) [H1 : EncL cFind R1 vhxFinds] [H2 : EncL cSecret R2 vhxSecrets] [H3 : EncL cSlot R3 vhxSlots] [H4 : EncL cClaim R4 vhxClaims] [H5 : EncL cTrial R5 vhxTrials] [H6 : EncL cHand R6 vhxChain] [H7 : EncL cEntry R7 vhxBook] : CP T (n + 4) 31 [.agg [.i .i64 vhxNo, .imm 8 R1, .imm 3 R2, .imm 3 R3, .imm 5 R4, .imm 4 R5, .imm 5 R6, .imm 4 R7, .i .i64 vhxNow]] = (spec_AreOwners (⟨vhxNo, vhxFinds, vhxSecrets, vhxSlots, vhxClaims, vhxTrials, vhxChain, vhxBook, vhxNow⟩ : House)).map fun r => .b r := by
  obtain ⟨rfl⟩ := H1
  obtain ⟨rfl⟩ := H2
  obtain ⟨rfl⟩ := H3
  obtain ⟨rfl⟩ := H4
  obtain ⟨rfl⟩ := H5
  obtain ⟨rfl⟩ := H6
  obtain ⟨rfl⟩ := H7
  rw [CP_eq]
  simp -dsimp +contextual only [↓evA, evB, evT, tys, encs, Nat.reduceAdd, Nat.reduceMul, Nat.reduceBEq, Nat.reduceLeDiff, Nat.reduceLT, Try.func31, Try.f31, a31, TP, orc_p, orc_l, e_spec_AreOwners_l2]
  try simp only [spec_AreOwners, evT, encs, c_js, r_map_some, e_need_t]
  all_goals rfl
theorem e_impl_isServed_1 (n : Nat) (cxId : Int) (cxWho : Int) (cxThing : Int) (cxAt : Int) (cxState : Int) (c2xThing : Int) (c2xHolder : Int) (c2xWho : Int) (c2xAt : Int) (c2xSeal : Int) : CP T (n + 1) 105 [.agg [.i .i64 cxId, .i .i64 cxWho, .i .i64 cxThing, .i .i64 cxAt, .i .i64 cxState], .iptr 5 [[.i .i64 c2xThing, .i .i64 c2xHolder, .i .i64 c2xWho, .i .i64 c2xAt, .i .i64 c2xSeal]] 0 0] = (impl_isServed_1 (⟨cxId, cxWho, cxThing, cxAt, cxState⟩ : Claim) (⟨c2xThing, c2xHolder, c2xWho, c2xAt, c2xSeal⟩ : Hand)).map fun r => .b r := by
  rw [CP_eq]
  simp -dsimp +contextual only [↓evA, evB, evT, tys, encs, Nat.reduceAdd, Nat.reduceMul, Nat.reduceBEq, Nat.reduceLeDiff, Nat.reduceLT, Try.func105, Try.f105, a105, TP, orc_p, orc_l]
  try simp only [impl_isServed_1, evT, encs, c_js, r_map_some, e_need_t]
  all_goals rfl
theorem e_slices_IndexFunc_Claim_c105_l2 (n : Nat) {R1} {s : List Claim} (fxThing : Int) (fxHolder : Int) (fxWho : Int) (fxAt : Int) (fxSeal : Int) (t7 : Int) (t8 : Int) [H1 : EncL cClaim R1 s] : LP T (n + 2) 123 2 (frm [(0, .imm 5 R1), (1, .clo 105 [.iptr 5 [[.i .i64 fxThing, .i .i64 fxHolder, .i .i64 fxWho, .i .i64 fxAt, .i .i64 fxSeal]] 0 0]), (7, .i .i64 t7), (8, .i .i64 t8)]) [] =
    lmap (run (slices_IndexFunc_Claim_c105_l2 s (⟨fxThing, fxHolder, fxWho, fxAt, fxSeal⟩ : Hand) t7) t8) (fun (zr : Int) => (XE.ret, frm [(4, .i .i64 zr)], [])) (fun (zr : Unit) => (XE.exit 0, frm [], [])) := by
  obtain ⟨rfl⟩ := H1
  rw [LP_eq]
  simp -dsimp only [↓evA, evB, lpG_eq, Try.func123, Try.f123, a123, TP, Nat.reduceAdd, Nat.reduceMul, Nat.reduceBEq, Nat.reduceLeDiff, Nat.reduceLT]
  refine run_map (fun (zs : Int) => (frm [(0, .imm 5 (s.map cClaim)), (1, .clo 105 [.iptr 5 [[.i .i64 (⟨fxThing, fxHolder, fxWho, fxAt, fxSeal⟩ : Hand).Thing, .i .i64 (⟨fxThing, fxHolder, fxWho, fxAt, fxSeal⟩ : Hand).Holder, .i .i64 (⟨fxThing, fxHolder, fxWho, fxAt, fxSeal⟩ : Hand).Who, .i .i64 (⟨fxThing, fxHolder, fxWho, fxAt, fxSeal⟩ : Hand).At, .i .i64 (⟨fxThing, fxHolder, fxWho, fxAt, fxSeal⟩ : Hand).Seal]] 0 0]), (7, .i .i64 t7), (8, .i .i64 zs)], [])) (evO (fun (zr : Int) => (XE.ret, frm [(4, .i .i64 zr)], [])) (fun (zr : Unit) => (XE.exit 0, frm [], []))) ?_ t8
  intro t8
  simp -dsimp +contextual only [↓evA, evB, evT, tys, encs, Nat.reduceAdd, Nat.reduceMul, Nat.reduceBEq, Nat.reduceLeDiff, Nat.reduceLT, TP, orc_p, orc_l, e_impl_isServed_1]
  try simp only [slices_IndexFunc_Claim_c105_l2, evT, encs, c_js, r_map_some, e_need_t]
  all_goals rfl
theorem e_slices_IndexFunc_Claim_c105 (n : Nat) {R1} {s : List Claim} (cxThing : Int) (cxHolder : Int) (cxWho : Int) (cxAt : Int) (cxSeal : Int) [H1 : EncL cClaim R1 s] : CP T (n + 3) 123 [.imm 5 R1, .clo 105 [.iptr 5 [[.i .i64 cxThing, .i .i64 cxHolder, .i .i64 cxWho, .i .i64 cxAt, .i .i64 cxSeal]] 0 0]] = (slices_IndexFunc_Claim_c105 s (⟨cxThing, cxHolder, cxWho, cxAt, cxSeal⟩ : Hand)).map fun r => .i .i64 r := by
  obtain ⟨rfl⟩ := H1
  rw [CP_eq]
  simp -dsimp +contextual only [↓evA, evB, evT, tys, encs, Nat.reduceAdd, Nat.reduceMul, Nat.reduceBEq, Nat.reduceLeDiff, Nat.reduceLT, Try.func123, Try.f123, a123, TP, orc_p, orc_l, e_slices_IndexFunc_Claim_c105_l2]
  try simp only [slices_IndexFunc_Claim_c105, evT, encs, c_js, r_map_some, e_need_t]
  all_goals rfl
theorem e_slices_ContainsFunc_Claim_c105 (n : Nat) {R1} {s : List Claim} (cxThing : Int) (cxHolder : Int) (cxWho : Int) (cxAt : Int) (cxSeal : Int) [H1 : EncL cClaim R1 s] : CP T (n + 4) 104 [.imm 5 R1, .clo 105 [.iptr 5 [[.i .i64 cxThing, .i .i64 cxHolder, .i .i64 cxWho, .i .i64 cxAt, .i .i64 cxSeal]] 0 0]] = (slices_ContainsFunc_Claim_c105 s (⟨cxThing, cxHolder, cxWho, cxAt, cxSeal⟩ : Hand)).map fun r => .b r := by
  obtain ⟨rfl⟩ := H1
  rw [CP_eq]
  simp -dsimp +contextual only [↓evA, evB, evT, tys, encs, Nat.reduceAdd, Nat.reduceMul, Nat.reduceBEq, Nat.reduceLeDiff, Nat.reduceLT, Try.func104, Try.f104, a104, TP, orc_p, orc_l, e_slices_IndexFunc_Claim_c105]
  try simp only [slices_ContainsFunc_Claim_c105, evT, encs, c_js, r_map_some, e_need_t]
  all_goals rfl
theorem e_impl_isServed (n : Nat) (vhxNo : Int) {R1} {vhxFinds : List Find} {R2} {vhxSecrets : List Secret} {R3} {vhxSlots : List Slot} {R4} {vhxClaims : List Claim} {R5} {vhxTrials : List Trial} {R6} {vhxChain : List Hand} {R7} {vhxBook : List Entry} (vhxNow : Int) (xxThing : Int) (xxHolder : Int) (xxWho : Int) (xxAt : Int) (xxSeal : Int) [H1 : EncL cFind R1 vhxFinds] [H2 : EncL cSecret R2 vhxSecrets] [H3 : EncL cSlot R3 vhxSlots] [H4 : EncL cClaim R4 vhxClaims] [H5 : EncL cTrial R5 vhxTrials] [H6 : EncL cHand R6 vhxChain] [H7 : EncL cEntry R7 vhxBook] : CP T (n + 5) 69 [.agg [.i .i64 vhxNo, .imm 8 R1, .imm 3 R2, .imm 3 R3, .imm 5 R4, .imm 4 R5, .imm 5 R6, .imm 4 R7, .i .i64 vhxNow], .agg [.i .i64 xxThing, .i .i64 xxHolder, .i .i64 xxWho, .i .i64 xxAt, .i .i64 xxSeal]] = (impl_isServed (⟨vhxNo, vhxFinds, vhxSecrets, vhxSlots, vhxClaims, vhxTrials, vhxChain, vhxBook, vhxNow⟩ : House) (⟨xxThing, xxHolder, xxWho, xxAt, xxSeal⟩ : Hand)).map fun r => .b r := by
  obtain ⟨rfl⟩ := H1
  obtain ⟨rfl⟩ := H2
  obtain ⟨rfl⟩ := H3
  obtain ⟨rfl⟩ := H4
  obtain ⟨rfl⟩ := H5
  obtain ⟨rfl⟩ := H6
  obtain ⟨rfl⟩ := H7
  rw [CP_eq]
  simp -dsimp +contextual only [↓evA, evB, evT, tys, encs, Nat.reduceAdd, Nat.reduceMul, Nat.reduceBEq, Nat.reduceLeDiff, Nat.reduceLT, Try.func69, Try.f69, a69, TP, orc_p, orc_l, e_slices_ContainsFunc_Claim_c105]
  try simp only [impl_isServed, evT, encs, c_js, r_map_some, e_need_t]
  all_goals rfl
theorem e_impl_FindThing_1 (n : Nat) (fxThingxId : Int) (fxThingxKind : Int) (fxThingxColour : Int) (fxThingxSize : Int) (fxThingxWorth : Int) (fxPlace : Int) (fxAt : Int) (fxFinder : Int) (c : Int) : CP T (n + 1) 107 [.agg [.i .i64 fxThingxId, .i .i64 fxThingxKind, .i .i64 fxThingxColour, .i .i64 fxThingxSize, .i .i64 fxThingxWorth, .i .i64 fxPlace, .i .i64 fxAt, .i .i64 fxFinder], .iptr 1 [[.i .i64 c]] 0 0] = (impl_FindThing_1 (⟨⟨fxThingxId, fxThingxKind, fxThingxColour, fxThingxSize, fxThingxWorth⟩, fxPlace, fxAt, fxFinder⟩ : Find) c).map fun r => .b r := by
  rw [CP_eq]
  simp -dsimp +contextual only [↓evA, evB, evT, tys, encs, Nat.reduceAdd, Nat.reduceMul, Nat.reduceBEq, Nat.reduceLeDiff, Nat.reduceLT, Try.func107, Try.f107, a107, TP, orc_p, orc_l]
  try simp only [impl_FindThing_1, evT, encs, c_js, r_map_some, e_need_t]
  all_goals rfl
theorem e_slices_IndexFunc_Find_c107_l2 (n : Nat) {R1} {s : List Find} (f : Int) (t7 : Int) (t8 : Int) [H1 : EncL cFind R1 s] : LP T (n + 2) 106 2 (frm [(0, .imm 8 R1), (1, .clo 107 [.iptr 1 [[.i .i64 f]] 0 0]), (7, .i .i64 t7), (8, .i .i64 t8)]) [] =
    lmap (run (slices_IndexFunc_Find_c107_l2 s f t7) t8) (fun (zr : Int) => (XE.ret, frm [(4, .i .i64 zr)], [])) (fun (zr : Unit) => (XE.exit 0, frm [], [])) := by
  obtain ⟨rfl⟩ := H1
  rw [LP_eq]
  simp -dsimp only [↓evA, evB, lpG_eq, Try.func106, Try.f106, a106, TP, Nat.reduceAdd, Nat.reduceMul, Nat.reduceBEq, Nat.reduceLeDiff, Nat.reduceLT]
  refine run_map (fun (zs : Int) => (frm [(0, .imm 8 (s.map cFind)), (1, .clo 107 [.iptr 1 [[.i .i64 f]] 0 0]), (7, .i .i64 t7), (8, .i .i64 zs)], [])) (evO (fun (zr : Int) => (XE.ret, frm [(4, .i .i64 zr)], [])) (fun (zr : Unit) => (XE.exit 0, frm [], []))) ?_ t8
  intro t8
  simp -dsimp +contextual only [↓evA, evB, evT, tys, encs, Nat.reduceAdd, Nat.reduceMul, Nat.reduceBEq, Nat.reduceLeDiff, Nat.reduceLT, TP, orc_p, orc_l, e_impl_FindThing_1]
  try simp only [slices_IndexFunc_Find_c107_l2, evT, encs, c_js, r_map_some, e_need_t]
  all_goals rfl
theorem e_slices_IndexFunc_Find_c107 (n : Nat) {R1} {s : List Find} (c : Int) [H1 : EncL cFind R1 s] : CP T (n + 3) 106 [.imm 8 R1, .clo 107 [.iptr 1 [[.i .i64 c]] 0 0]] = (slices_IndexFunc_Find_c107 s c).map fun r => .i .i64 r := by
  obtain ⟨rfl⟩ := H1
  rw [CP_eq]
  simp -dsimp +contextual only [↓evA, evB, evT, tys, encs, Nat.reduceAdd, Nat.reduceMul, Nat.reduceBEq, Nat.reduceLeDiff, Nat.reduceLT, Try.func106, Try.f106, a106, TP, orc_p, orc_l, e_slices_IndexFunc_Find_c107_l2]
  try simp only [slices_IndexFunc_Find_c107, evT, encs, c_js, r_map_some, e_need_t]
  all_goals rfl
theorem e_impl_FindThing (n : Nat) {R1} {l : List Find} (id : Int) [H1 : EncL cFind R1 l] : CP T (n + 4) 70 [.imm 8 R1, .i .i64 id] = (impl_FindThing l id).map fun r => .i .i64 r := by
  obtain ⟨rfl⟩ := H1
  rw [CP_eq]
  simp -dsimp +contextual only [↓evA, evB, evT, tys, encs, Nat.reduceAdd, Nat.reduceMul, Nat.reduceBEq, Nat.reduceLeDiff, Nat.reduceLT, Try.func70, Try.f70, a70, TP, orc_p, orc_l, e_slices_IndexFunc_Find_c107]
  try simp only [impl_FindThing, evT, encs, c_js, r_map_some, e_need_t]
  all_goals rfl
theorem e_impl_AreOwners_l2 (n : Nat) (vhxNo : Int) {R1} {vhxFinds : List Find} {R2} {vhxSecrets : List Secret} {R3} {vhxSlots : List Slot} {R4} {vhxClaims : List Claim} {R5} {vhxTrials : List Trial} {R6} {vhxChain : List Hand} {R7} {vhxBook : List Entry} (vhxNow : Int) {R8} {t7 : List Hand} (t8 : Int) (t9 : Int) [H1 : EncL cFind R1 vhxFinds] [H2 : EncL cSecret R2 vhxSecrets] [H3 : EncL cSlot R3 vhxSlots] [H4 : EncL cClaim R4 vhxClaims] [H5 : EncL cTrial R5 vhxTrials] [H6 : EncL cHand R6 vhxChain] [H7 : EncL cEntry R7 vhxBook] [H8 : EncL cHand R8 t7] : LP T (n + 6) 32 2 (frm [(1, .ptr 0 0 0), (7, .imm 5 R8), (8, .i .i64 t8), (9, .i .i64 t9)]) [some (Ent.box [.i .i64 vhxNo, .imm 8 R1, .imm 3 R2, .imm 3 R3, .imm 5 R4, .imm 4 R5, .imm 5 R6, .imm 4 R7, .i .i64 vhxNow])] =
    lmap (run (impl_AreOwners_l2 (⟨vhxNo, vhxFinds, vhxSecrets, vhxSlots, vhxClaims, vhxTrials, vhxChain, vhxBook, vhxNow⟩ : House) t7 t8) t9) (fun (zr : Bool) => (XE.ret, frm [(2, .b zr)], [])) (fun (zr : Unit) => (XE.exit 0, frm [], [])) := by
  obtain ⟨rfl⟩ := H1
  obtain ⟨rfl⟩ := H2
  obtain ⟨rfl⟩ := H3
  obtain ⟨rfl⟩ := H4
  obtain ⟨rfl⟩ := H5
  obtain ⟨rfl⟩ := H6
  obtain ⟨rfl⟩ := H7
  obtain ⟨rfl⟩ := H8
  rw [LP_eq]
  simp -dsimp only [↓evA, evB, lpG_eq, Try.func32, Try.f32, a32, TP, Nat.reduceAdd, Nat.reduceMul, Nat.reduceBEq, Nat.reduceLeDiff, Nat.reduceLT]
  refine run_map (fun (zs : Int) => (frm [(1, .ptr 0 0 0), (7, .imm 5 (t7.map cHand)), (8, .i .i64 t8), (9, .i .i64 zs)], [some (Ent.box [.i .i64 (⟨vhxNo, vhxFinds, vhxSecrets, vhxSlots, vhxClaims, vhxTrials, vhxChain, vhxBook, vhxNow⟩ : House).No, .imm 8 ((⟨vhxNo, vhxFinds, vhxSecrets, vhxSlots, vhxClaims, vhxTrials, vhxChain, vhxBook, vhxNow⟩ : House).Finds.map cFind), .imm 3 ((⟨vhxNo, vhxFinds, vhxSecrets, vhxSlots, vhxClaims, vhxTrials, vhxChain, vhxBook, vhxNow⟩ : House).Secrets.map cSecret), .imm 3 ((⟨vhxNo, vhxFinds, vhxSecrets, vhxSlots, vhxClaims, vhxTrials, vhxChain, vhxBook, vhxNow⟩ : House).Slots.map cSlot), .imm 5 ((⟨vhxNo, vhxFinds, vhxSecrets, vhxSlots, vhxClaims, vhxTrials, vhxChain, vhxBook, vhxNow⟩ : House).Claims.map cClaim), .imm 4 ((⟨vhxNo, vhxFinds, vhxSecrets, vhxSlots, vhxClaims, vhxTrials, vhxChain, vhxBook, vhxNow⟩ : House).Trials.map cTrial), .imm 5 ((⟨vhxNo, vhxFinds, vhxSecrets, vhxSlots, vhxClaims, vhxTrials, vhxChain, vhxBook, vhxNow⟩ : House).Chain.map cHand), .imm 4 ((⟨vhxNo, vhxFinds, vhxSecrets, vhxSlots, vhxClaims, vhxTrials, vhxChain, vhxBook, vhxNow⟩ : House).Book.map cEntry), .i .i64 (⟨vhxNo, vhxFinds, vhxSecrets, vhxSlots, vhxClaims, vhxTrials, vhxChain, vhxBook, vhxNow⟩ : House).Now])])) (evO (fun (zr : Bool) => (XE.ret, frm [(2, .b zr)], [])) (fun (zr : Unit) => (XE.exit 0, frm [], []))) ?_ t9
  intro t9
  simp -dsimp +contextual only [↓evA, evB, evT, tys, encs, Nat.reduceAdd, Nat.reduceMul, Nat.reduceBEq, Nat.reduceLeDiff, Nat.reduceLT, TP, orc_p, orc_l, e_impl_isServed, e_impl_FindThing]
  try simp only [impl_AreOwners_l2, evT, encs, c_js, r_map_some, e_need_t]
  all_goals rfl
theorem e_impl_AreOwners (n : Nat) (vhxNo : Int) {R1} {vhxFinds : List Find} {R2} {vhxSecrets : List Secret} {R3} {vhxSlots : List Slot} {R4} {vhxClaims : List Claim} {R5} {vhxTrials : List Trial} {R6} {vhxChain : List Hand} {R7} {vhxBook : List Entry} (vhxNow : Int) [H1 : EncL cFind R1 vhxFinds] [H2 : EncL cSecret R2 vhxSecrets] [H3 : EncL cSlot R3 vhxSlots] [H4 : EncL cClaim R4 vhxClaims] [H5 : EncL cTrial R5 vhxTrials] [H6 : EncL cHand R6 vhxChain] [H7 : EncL cEntry R7 vhxBook] : CP T (n + 7) 32 [.agg [.i .i64 vhxNo, .imm 8 R1, .imm 3 R2, .imm 3 R3, .imm 5 R4, .imm 4 R5, .imm 5 R6, .imm 4 R7, .i .i64 vhxNow]] = (impl_AreOwners (⟨vhxNo, vhxFinds, vhxSecrets, vhxSlots, vhxClaims, vhxTrials, vhxChain, vhxBook, vhxNow⟩ : House)).map fun r => .b r := by
  obtain ⟨rfl⟩ := H1
  obtain ⟨rfl⟩ := H2
  obtain ⟨rfl⟩ := H3
  obtain ⟨rfl⟩ := H4
  obtain ⟨rfl⟩ := H5
  obtain ⟨rfl⟩ := H6
  obtain ⟨rfl⟩ := H7
  rw [CP_eq]
  simp -dsimp +contextual only [↓evA, evB, evT, tys, encs, Nat.reduceAdd, Nat.reduceMul, Nat.reduceBEq, Nat.reduceLeDiff, Nat.reduceLT, Try.func32, Try.f32, a32, TP, orc_p, orc_l, e_impl_AreOwners_l2]
  try simp only [impl_AreOwners, evT, encs, c_js, r_map_some, e_need_t]
  all_goals rfl
theorem e_laws_FnExactAreOwners (n : Nat) (aHxNo : Int) {R1} {aHxFinds : List Find} {R2} {aHxSecrets : List Secret} {R3} {aHxSlots : List Slot} {R4} {aHxClaims : List Claim} {R5} {aHxTrials : List Trial} {R6} {aHxChain : List Hand} {R7} {aHxBook : List Entry} (aHxNow : Int) [H1 : EncL cFind R1 aHxFinds] [H2 : EncL cSecret R2 aHxSecrets] [H3 : EncL cSlot R3 aHxSlots] [H4 : EncL cClaim R4 aHxClaims] [H5 : EncL cTrial R5 aHxTrials] [H6 : EncL cHand R6 aHxChain] [H7 : EncL cEntry R7 aHxBook] : CP T (n + 8) 6 [.agg [.i .i64 aHxNo, .imm 8 R1, .imm 3 R2, .imm 3 R3, .imm 5 R4, .imm 4 R5, .imm 5 R6, .imm 4 R7, .i .i64 aHxNow]] = (laws_FnExactAreOwners (⟨aHxNo, aHxFinds, aHxSecrets, aHxSlots, aHxClaims, aHxTrials, aHxChain, aHxBook, aHxNow⟩ : House)).map fun r => .b r := by
  obtain ⟨rfl⟩ := H1
  obtain ⟨rfl⟩ := H2
  obtain ⟨rfl⟩ := H3
  obtain ⟨rfl⟩ := H4
  obtain ⟨rfl⟩ := H5
  obtain ⟨rfl⟩ := H6
  obtain ⟨rfl⟩ := H7
  rw [CP_eq]
  simp -dsimp +contextual only [↓evA, evB, evT, tys, encs, Nat.reduceAdd, Nat.reduceMul, Nat.reduceBEq, Nat.reduceLeDiff, Nat.reduceLT, Try.func6, Try.f6, a6, TP, orc_p, orc_l, e_laws_szHouse, e_laws_toHouse, e_spec_AreOwners, e_impl_AreOwners, e_laws_eqHouse]
  try simp only [laws_FnExactAreOwners, evT, encs, c_js, r_map_some, e_need_t]
  all_goals rfl
theorem e_spec_l31Marks_l4 (n : Nat) {R1} {a : List Mark} {R2} {b : List Mark} (i : Int) [H1 : EncL cMark R1 a] [H2 : EncL cMark R2 b] : LP T (n + 1) 108 4 (frm [(0, .imm 2 R1), (1, .imm 2 R2), (5, .i .i64 i)]) [] =
    lmap (run (spec_l31Marks_l4 a b) i) (fun (zr : Bool) => (XE.ret, frm [(4, .b zr)], [])) (fun (zr : Unit) => (XE.exit 0, frm [], [])) := by
  obtain ⟨rfl⟩ := H1
  obtain ⟨rfl⟩ := H2
  rw [LP_eq]
  simp -dsimp only [↓evA, evB, lpG_eq, Try.func108, Try.f108, a108, TP, Nat.reduceAdd, Nat.reduceMul, Nat.reduceBEq, Nat.reduceLeDiff, Nat.reduceLT]
  refine run_map (fun (zs : Int) => (frm [(0, .imm 2 (a.map cMark)), (1, .imm 2 (b.map cMark)), (5, .i .i64 zs)], [])) (evO (fun (zr : Bool) => (XE.ret, frm [(4, .b zr)], [])) (fun (zr : Unit) => (XE.exit 0, frm [], []))) ?_ i
  intro i
  simp -dsimp +contextual only [↓evA, evB, evT, tys, encs, Nat.reduceAdd, Nat.reduceMul, Nat.reduceBEq, Nat.reduceLeDiff, Nat.reduceLT, TP, orc_p, orc_l]
  try simp only [spec_l31Marks_l4, evT, encs, c_js, r_map_some, e_need_t]
  all_goals rfl
theorem e_spec_l31Marks (n : Nat) {R1} {a : List Mark} {R2} {b : List Mark} [H1 : EncL cMark R1 a] [H2 : EncL cMark R2 b] : CP T (n + 2) 108 [.imm 2 R1, .imm 2 R2] = (spec_l31Marks a b).map fun r => .b r := by
  obtain ⟨rfl⟩ := H1
  obtain ⟨rfl⟩ := H2
  rw [CP_eq]
  simp -dsimp +contextual only [↓evA, evB, evT, tys, encs, Nat.reduceAdd, Nat.reduceMul, Nat.reduceBEq, Nat.reduceLeDiff, Nat.reduceLT, Try.func108, Try.f108, a108, TP, orc_p, orc_l, e_spec_l31Marks_l4]
  try simp only [spec_l31Marks, evT, encs, c_js, r_map_some, e_need_t]
  all_goals rfl
theorem e_spec_EqualSecrets_l4 (n : Nat) {R1} {a : List Secret} {R2} {b : List Secret} (i : Int) [H1 : EncL cSecret R1 a] [H2 : EncL cSecret R2 b] : LP T (n + 3) 71 4 (frm [(0, .imm 3 R1), (1, .imm 3 R2), (5, .i .i64 i)]) [] =
    lmap (run (spec_EqualSecrets_l4 a b) i) (fun (zr : Bool) => (XE.ret, frm [(4, .b zr)], [])) (fun (zr : Unit) => (XE.exit 0, frm [], [])) := by
  obtain ⟨rfl⟩ := H1
  obtain ⟨rfl⟩ := H2
  rw [LP_eq]
  simp -dsimp only [↓evA, evB, lpG_eq, Try.func71, Try.f71, a71, TP, Nat.reduceAdd, Nat.reduceMul, Nat.reduceBEq, Nat.reduceLeDiff, Nat.reduceLT]
  refine run_map (fun (zs : Int) => (frm [(0, .imm 3 (a.map cSecret)), (1, .imm 3 (b.map cSecret)), (5, .i .i64 zs)], [])) (evO (fun (zr : Bool) => (XE.ret, frm [(4, .b zr)], [])) (fun (zr : Unit) => (XE.exit 0, frm [], []))) ?_ i
  intro i
  simp -dsimp +contextual only [↓evA, evB, evT, tys, encs, Nat.reduceAdd, Nat.reduceMul, Nat.reduceBEq, Nat.reduceLeDiff, Nat.reduceLT, TP, orc_p, orc_l, e_spec_l31Marks]
  try simp only [spec_EqualSecrets_l4, evT, encs, c_js, r_map_some, e_need_t]
  all_goals rfl
theorem e_spec_EqualSecrets (n : Nat) {R1} {a : List Secret} {R2} {b : List Secret} [H1 : EncL cSecret R1 a] [H2 : EncL cSecret R2 b] : CP T (n + 4) 71 [.imm 3 R1, .imm 3 R2] = (spec_EqualSecrets a b).map fun r => .b r := by
  obtain ⟨rfl⟩ := H1
  obtain ⟨rfl⟩ := H2
  rw [CP_eq]
  simp -dsimp +contextual only [↓evA, evB, evT, tys, encs, Nat.reduceAdd, Nat.reduceMul, Nat.reduceBEq, Nat.reduceLeDiff, Nat.reduceLT, Try.func71, Try.f71, a71, TP, orc_p, orc_l, e_spec_EqualSecrets_l4]
  try simp only [spec_EqualSecrets, evT, encs, c_js, r_map_some, e_need_t]
  all_goals rfl
theorem e_spec_l33Lists_l4 (n : Nat) (t2xNo : Int) {R1} {t2xFinds : List Find} {R2} {t2xSecrets : List Secret} {R3} {t2xSlots : List Slot} {R4} {t2xClaims : List Claim} {R5} {t2xTrials : List Trial} {R6} {t2xChain : List Hand} {R7} {t2xBook : List Entry} (t2xNow : Int) (t3xNo : Int) {R8} {t3xFinds : List Find} {R9} {t3xSecrets : List Secret} {R10} {t3xSlots : List Slot} {R11} {t3xClaims : List Claim} {R12} {t3xTrials : List Trial} {R13} {t3xChain : List Hand} {R14} {t3xBook : List Entry} (t3xNow : Int) (t5 : Int) [H1 : EncL cFind R1 t2xFinds] [H2 : EncL cSecret R2 t2xSecrets] [H3 : EncL cSlot R3 t2xSlots] [H4 : EncL cClaim R4 t2xClaims] [H5 : EncL cTrial R5 t2xTrials] [H6 : EncL cHand R6 t2xChain] [H7 : EncL cEntry R7 t2xBook] [H8 : EncL cFind R8 t3xFinds] [H9 : EncL cSecret R9 t3xSecrets] [H10 : EncL cSlot R10 t3xSlots] [H11 : EncL cClaim R11 t3xClaims] [H12 : EncL cTrial R12 t3xTrials] [H13 : EncL cHand R13 t3xChain] [H14 : EncL cEntry R14 t3xBook] : LP T (n + 1) 72 4 (frm [(2, .ptr 0 0 0), (3, .ptr 1 0 0), (5, .i .i64 t5)]) [some (Ent.box [.i .i64 t2xNo, .imm 8 R1, .imm 3 R2, .imm 3 R3, .imm 5 R4, .imm 4 R5, .imm 5 R6, .imm 4 R7, .i .i64 t2xNow]), some (Ent.box [.i .i64 t3xNo, .imm 8 R8, .imm 3 R9, .imm 3 R10, .imm 5 R11, .imm 4 R12, .imm 5 R13, .imm 4 R14, .i .i64 t3xNow])] =
    lmap (run (spec_l33Lists_l4 (⟨t2xNo, t2xFinds, t2xSecrets, t2xSlots, t2xClaims, t2xTrials, t2xChain, t2xBook, t2xNow⟩ : House) (⟨t3xNo, t3xFinds, t3xSecrets, t3xSlots, t3xClaims, t3xTrials, t3xChain, t3xBook, t3xNow⟩ : House)) t5) (fun (zr : Bool) => (XE.ret, frm [(4, .b zr)], [])) (fun (zr : Unit) => (XE.exit 0, frm [(2, .ptr 0 0 0), (3, .ptr 1 0 0)], [some (Ent.box [.i .i64 (⟨t2xNo, t2xFinds, t2xSecrets, t2xSlots, t2xClaims, t2xTrials, t2xChain, t2xBook, t2xNow⟩ : House).No, .imm 8 ((⟨t2xNo, t2xFinds, t2xSecrets, t2xSlots, t2xClaims, t2xTrials, t2xChain, t2xBook, t2xNow⟩ : House).Finds.map cFind), .imm 3 ((⟨t2xNo, t2xFinds, t2xSecrets, t2xSlots, t2xClaims, t2xTrials, t2xChain, t2xBook, t2xNow⟩ : House).Secrets.map cSecret), .imm 3 ((⟨t2xNo, t2xFinds, t2xSecrets, t2xSlots, t2xClaims, t2xTrials, t2xChain, t2xBook, t2xNow⟩ : House).Slots.map cSlot), .imm 5 ((⟨t2xNo, t2xFinds, t2xSecrets, t2xSlots, t2xClaims, t2xTrials, t2xChain, t2xBook, t2xNow⟩ : House).Claims.map cClaim), .imm 4 ((⟨t2xNo, t2xFinds, t2xSecrets, t2xSlots, t2xClaims, t2xTrials, t2xChain, t2xBook, t2xNow⟩ : House).Trials.map cTrial), .imm 5 ((⟨t2xNo, t2xFinds, t2xSecrets, t2xSlots, t2xClaims, t2xTrials, t2xChain, t2xBook, t2xNow⟩ : House).Chain.map cHand), .imm 4 ((⟨t2xNo, t2xFinds, t2xSecrets, t2xSlots, t2xClaims, t2xTrials, t2xChain, t2xBook, t2xNow⟩ : House).Book.map cEntry), .i .i64 (⟨t2xNo, t2xFinds, t2xSecrets, t2xSlots, t2xClaims, t2xTrials, t2xChain, t2xBook, t2xNow⟩ : House).Now]), some (Ent.box [.i .i64 (⟨t3xNo, t3xFinds, t3xSecrets, t3xSlots, t3xClaims, t3xTrials, t3xChain, t3xBook, t3xNow⟩ : House).No, .imm 8 ((⟨t3xNo, t3xFinds, t3xSecrets, t3xSlots, t3xClaims, t3xTrials, t3xChain, t3xBook, t3xNow⟩ : House).Finds.map cFind), .imm 3 ((⟨t3xNo, t3xFinds, t3xSecrets, t3xSlots, t3xClaims, t3xTrials, t3xChain, t3xBook, t3xNow⟩ : House).Secrets.map cSecret), .imm 3 ((⟨t3xNo, t3xFinds, t3xSecrets, t3xSlots, t3xClaims, t3xTrials, t3xChain, t3xBook, t3xNow⟩ : House).Slots.map cSlot), .imm 5 ((⟨t3xNo, t3xFinds, t3xSecrets, t3xSlots, t3xClaims, t3xTrials, t3xChain, t3xBook, t3xNow⟩ : House).Claims.map cClaim), .imm 4 ((⟨t3xNo, t3xFinds, t3xSecrets, t3xSlots, t3xClaims, t3xTrials, t3xChain, t3xBook, t3xNow⟩ : House).Trials.map cTrial), .imm 5 ((⟨t3xNo, t3xFinds, t3xSecrets, t3xSlots, t3xClaims, t3xTrials, t3xChain, t3xBook, t3xNow⟩ : House).Chain.map cHand), .imm 4 ((⟨t3xNo, t3xFinds, t3xSecrets, t3xSlots, t3xClaims, t3xTrials, t3xChain, t3xBook, t3xNow⟩ : House).Book.map cEntry), .i .i64 (⟨t3xNo, t3xFinds, t3xSecrets, t3xSlots, t3xClaims, t3xTrials, t3xChain, t3xBook, t3xNow⟩ : House).Now])])) := by
  obtain ⟨rfl⟩ := H1
  obtain ⟨rfl⟩ := H2
  obtain ⟨rfl⟩ := H3
  obtain ⟨rfl⟩ := H4
  obtain ⟨rfl⟩ := H5
  obtain ⟨rfl⟩ := H6
  obtain ⟨rfl⟩ := H7
  obtain ⟨rfl⟩ := H8
  obtain ⟨rfl⟩ := H9
  obtain ⟨rfl⟩ := H10
  obtain ⟨rfl⟩ := H11
  obtain ⟨rfl⟩ := H12
  obtain ⟨rfl⟩ := H13
  obtain ⟨rfl⟩ := H14
  rw [LP_eq]
  simp -dsimp only [↓evA, evB, lpG_eq, Try.func72, Try.f72, a72, TP, Nat.reduceAdd, Nat.reduceMul, Nat.reduceBEq, Nat.reduceLeDiff, Nat.reduceLT]
  refine run_map (fun (zs : Int) => (frm [(2, .ptr 0 0 0), (3, .ptr 1 0 0), (5, .i .i64 zs)], [some (Ent.box [.i .i64 (⟨t2xNo, t2xFinds, t2xSecrets, t2xSlots, t2xClaims, t2xTrials, t2xChain, t2xBook, t2xNow⟩ : House).No, .imm 8 ((⟨t2xNo, t2xFinds, t2xSecrets, t2xSlots, t2xClaims, t2xTrials, t2xChain, t2xBook, t2xNow⟩ : House).Finds.map cFind), .imm 3 ((⟨t2xNo, t2xFinds, t2xSecrets, t2xSlots, t2xClaims, t2xTrials, t2xChain, t2xBook, t2xNow⟩ : House).Secrets.map cSecret), .imm 3 ((⟨t2xNo, t2xFinds, t2xSecrets, t2xSlots, t2xClaims, t2xTrials, t2xChain, t2xBook, t2xNow⟩ : House).Slots.map cSlot), .imm 5 ((⟨t2xNo, t2xFinds, t2xSecrets, t2xSlots, t2xClaims, t2xTrials, t2xChain, t2xBook, t2xNow⟩ : House).Claims.map cClaim), .imm 4 ((⟨t2xNo, t2xFinds, t2xSecrets, t2xSlots, t2xClaims, t2xTrials, t2xChain, t2xBook, t2xNow⟩ : House).Trials.map cTrial), .imm 5 ((⟨t2xNo, t2xFinds, t2xSecrets, t2xSlots, t2xClaims, t2xTrials, t2xChain, t2xBook, t2xNow⟩ : House).Chain.map cHand), .imm 4 ((⟨t2xNo, t2xFinds, t2xSecrets, t2xSlots, t2xClaims, t2xTrials, t2xChain, t2xBook, t2xNow⟩ : House).Book.map cEntry), .i .i64 (⟨t2xNo, t2xFinds, t2xSecrets, t2xSlots, t2xClaims, t2xTrials, t2xChain, t2xBook, t2xNow⟩ : House).Now]), some (Ent.box [.i .i64 (⟨t3xNo, t3xFinds, t3xSecrets, t3xSlots, t3xClaims, t3xTrials, t3xChain, t3xBook, t3xNow⟩ : House).No, .imm 8 ((⟨t3xNo, t3xFinds, t3xSecrets, t3xSlots, t3xClaims, t3xTrials, t3xChain, t3xBook, t3xNow⟩ : House).Finds.map cFind), .imm 3 ((⟨t3xNo, t3xFinds, t3xSecrets, t3xSlots, t3xClaims, t3xTrials, t3xChain, t3xBook, t3xNow⟩ : House).Secrets.map cSecret), .imm 3 ((⟨t3xNo, t3xFinds, t3xSecrets, t3xSlots, t3xClaims, t3xTrials, t3xChain, t3xBook, t3xNow⟩ : House).Slots.map cSlot), .imm 5 ((⟨t3xNo, t3xFinds, t3xSecrets, t3xSlots, t3xClaims, t3xTrials, t3xChain, t3xBook, t3xNow⟩ : House).Claims.map cClaim), .imm 4 ((⟨t3xNo, t3xFinds, t3xSecrets, t3xSlots, t3xClaims, t3xTrials, t3xChain, t3xBook, t3xNow⟩ : House).Trials.map cTrial), .imm 5 ((⟨t3xNo, t3xFinds, t3xSecrets, t3xSlots, t3xClaims, t3xTrials, t3xChain, t3xBook, t3xNow⟩ : House).Chain.map cHand), .imm 4 ((⟨t3xNo, t3xFinds, t3xSecrets, t3xSlots, t3xClaims, t3xTrials, t3xChain, t3xBook, t3xNow⟩ : House).Book.map cEntry), .i .i64 (⟨t3xNo, t3xFinds, t3xSecrets, t3xSlots, t3xClaims, t3xTrials, t3xChain, t3xBook, t3xNow⟩ : House).Now])])) (evO (fun (zr : Bool) => (XE.ret, frm [(4, .b zr)], [])) (fun (zr : Unit) => (XE.exit 0, frm [(2, .ptr 0 0 0), (3, .ptr 1 0 0)], [some (Ent.box [.i .i64 (⟨t2xNo, t2xFinds, t2xSecrets, t2xSlots, t2xClaims, t2xTrials, t2xChain, t2xBook, t2xNow⟩ : House).No, .imm 8 ((⟨t2xNo, t2xFinds, t2xSecrets, t2xSlots, t2xClaims, t2xTrials, t2xChain, t2xBook, t2xNow⟩ : House).Finds.map cFind), .imm 3 ((⟨t2xNo, t2xFinds, t2xSecrets, t2xSlots, t2xClaims, t2xTrials, t2xChain, t2xBook, t2xNow⟩ : House).Secrets.map cSecret), .imm 3 ((⟨t2xNo, t2xFinds, t2xSecrets, t2xSlots, t2xClaims, t2xTrials, t2xChain, t2xBook, t2xNow⟩ : House).Slots.map cSlot), .imm 5 ((⟨t2xNo, t2xFinds, t2xSecrets, t2xSlots, t2xClaims, t2xTrials, t2xChain, t2xBook, t2xNow⟩ : House).Claims.map cClaim), .imm 4 ((⟨t2xNo, t2xFinds, t2xSecrets, t2xSlots, t2xClaims, t2xTrials, t2xChain, t2xBook, t2xNow⟩ : House).Trials.map cTrial), .imm 5 ((⟨t2xNo, t2xFinds, t2xSecrets, t2xSlots, t2xClaims, t2xTrials, t2xChain, t2xBook, t2xNow⟩ : House).Chain.map cHand), .imm 4 ((⟨t2xNo, t2xFinds, t2xSecrets, t2xSlots, t2xClaims, t2xTrials, t2xChain, t2xBook, t2xNow⟩ : House).Book.map cEntry), .i .i64 (⟨t2xNo, t2xFinds, t2xSecrets, t2xSlots, t2xClaims, t2xTrials, t2xChain, t2xBook, t2xNow⟩ : House).Now]), some (Ent.box [.i .i64 (⟨t3xNo, t3xFinds, t3xSecrets, t3xSlots, t3xClaims, t3xTrials, t3xChain, t3xBook, t3xNow⟩ : House).No, .imm 8 ((⟨t3xNo, t3xFinds, t3xSecrets, t3xSlots, t3xClaims, t3xTrials, t3xChain, t3xBook, t3xNow⟩ : House).Finds.map cFind), .imm 3 ((⟨t3xNo, t3xFinds, t3xSecrets, t3xSlots, t3xClaims, t3xTrials, t3xChain, t3xBook, t3xNow⟩ : House).Secrets.map cSecret), .imm 3 ((⟨t3xNo, t3xFinds, t3xSecrets, t3xSlots, t3xClaims, t3xTrials, t3xChain, t3xBook, t3xNow⟩ : House).Slots.map cSlot), .imm 5 ((⟨t3xNo, t3xFinds, t3xSecrets, t3xSlots, t3xClaims, t3xTrials, t3xChain, t3xBook, t3xNow⟩ : House).Claims.map cClaim), .imm 4 ((⟨t3xNo, t3xFinds, t3xSecrets, t3xSlots, t3xClaims, t3xTrials, t3xChain, t3xBook, t3xNow⟩ : House).Trials.map cTrial), .imm 5 ((⟨t3xNo, t3xFinds, t3xSecrets, t3xSlots, t3xClaims, t3xTrials, t3xChain, t3xBook, t3xNow⟩ : House).Chain.map cHand), .imm 4 ((⟨t3xNo, t3xFinds, t3xSecrets, t3xSlots, t3xClaims, t3xTrials, t3xChain, t3xBook, t3xNow⟩ : House).Book.map cEntry), .i .i64 (⟨t3xNo, t3xFinds, t3xSecrets, t3xSlots, t3xClaims, t3xTrials, t3xChain, t3xBook, t3xNow⟩ : House).Now])]))) ?_ t5
  intro t5
  simp -dsimp +contextual only [↓evA, evB, evT, tys, encs, Nat.reduceAdd, Nat.reduceMul, Nat.reduceBEq, Nat.reduceLeDiff, Nat.reduceLT, TP, orc_p, orc_l]
  try simp only [spec_l33Lists_l4, evT, encs, c_js, r_map_some, e_need_t]
  all_goals rfl
theorem e_spec_l33Lists_l9 (n : Nat) (t2xNo : Int) {R1} {t2xFinds : List Find} {R2} {t2xSecrets : List Secret} {R3} {t2xSlots : List Slot} {R4} {t2xClaims : List Claim} {R5} {t2xTrials : List Trial} {R6} {t2xChain : List Hand} {R7} {t2xBook : List Entry} (t2xNow : Int) (t3xNo : Int) {R8} {t3xFinds : List Find} {R9} {t3xSecrets : List Secret} {R10} {t3xSlots : List Slot} {R11} {t3xClaims : List Claim} {R12} {t3xTrials : List Trial} {R13} {t3xChain : List Hand} {R14} {t3xBook : List Entry} (t3xNow : Int) (t6 : Int) [H1 : EncL cFind R1 t2xFinds] [H2 : EncL cSecret R2 t2xSecrets] [H3 : EncL cSlot R3 t2xSlots] [H4 : EncL cClaim R4 t2xClaims] [H5 : EncL cTrial R5 t2xTrials] [H6 : EncL cHand R6 t2xChain] [H7 : EncL cEntry R7 t2xBook] [H8 : EncL cFind R8 t3xFinds] [H9 : EncL cSecret R9 t3xSecrets] [H10 : EncL cSlot R10 t3xSlots] [H11 : EncL cClaim R11 t3xClaims] [H12 : EncL cTrial R12 t3xTrials] [H13 : EncL cHand R13 t3xChain] [H14 : EncL cEntry R14 t3xBook] : LP T (n + 1) 72 9 (frm [(2, .ptr 0 0 0), (3, .ptr 1 0 0), (6, .i .i64 t6)]) [some (Ent.box [.i .i64 t2xNo, .imm 8 R1, .imm 3 R2, .imm 3 R3, .imm 5 R4, .imm 4 R5, .imm 5 R6, .imm 4 R7, .i .i64 t2xNow]), some (Ent.box [.i .i64 t3xNo, .imm 8 R8, .imm 3 R9, .imm 3 R10, .imm 5 R11, .imm 4 R12, .imm 5 R13, .imm 4 R14, .i .i64 t3xNow])] =
    lmap (run (spec_l33Lists_l9 (⟨t2xNo, t2xFinds, t2xSecrets, t2xSlots, t2xClaims, t2xTrials, t2xChain, t2xBook, t2xNow⟩ : House) (⟨t3xNo, t3xFinds, t3xSecrets, t3xSlots, t3xClaims, t3xTrials, t3xChain, t3xBook, t3xNow⟩ : House)) t6) (fun (zr : Bool) => (XE.ret, frm [(4, .b zr)], [])) (fun (zr : Unit) => (XE.exit 2, frm [(2, .ptr 0 0 0), (3, .ptr 1 0 0)], [some (Ent.box [.i .i64 (⟨t2xNo, t2xFinds, t2xSecrets, t2xSlots, t2xClaims, t2xTrials, t2xChain, t2xBook, t2xNow⟩ : House).No, .imm 8 ((⟨t2xNo, t2xFinds, t2xSecrets, t2xSlots, t2xClaims, t2xTrials, t2xChain, t2xBook, t2xNow⟩ : House).Finds.map cFind), .imm 3 ((⟨t2xNo, t2xFinds, t2xSecrets, t2xSlots, t2xClaims, t2xTrials, t2xChain, t2xBook, t2xNow⟩ : House).Secrets.map cSecret), .imm 3 ((⟨t2xNo, t2xFinds, t2xSecrets, t2xSlots, t2xClaims, t2xTrials, t2xChain, t2xBook, t2xNow⟩ : House).Slots.map cSlot), .imm 5 ((⟨t2xNo, t2xFinds, t2xSecrets, t2xSlots, t2xClaims, t2xTrials, t2xChain, t2xBook, t2xNow⟩ : House).Claims.map cClaim), .imm 4 ((⟨t2xNo, t2xFinds, t2xSecrets, t2xSlots, t2xClaims, t2xTrials, t2xChain, t2xBook, t2xNow⟩ : House).Trials.map cTrial), .imm 5 ((⟨t2xNo, t2xFinds, t2xSecrets, t2xSlots, t2xClaims, t2xTrials, t2xChain, t2xBook, t2xNow⟩ : House).Chain.map cHand), .imm 4 ((⟨t2xNo, t2xFinds, t2xSecrets, t2xSlots, t2xClaims, t2xTrials, t2xChain, t2xBook, t2xNow⟩ : House).Book.map cEntry), .i .i64 (⟨t2xNo, t2xFinds, t2xSecrets, t2xSlots, t2xClaims, t2xTrials, t2xChain, t2xBook, t2xNow⟩ : House).Now]), some (Ent.box [.i .i64 (⟨t3xNo, t3xFinds, t3xSecrets, t3xSlots, t3xClaims, t3xTrials, t3xChain, t3xBook, t3xNow⟩ : House).No, .imm 8 ((⟨t3xNo, t3xFinds, t3xSecrets, t3xSlots, t3xClaims, t3xTrials, t3xChain, t3xBook, t3xNow⟩ : House).Finds.map cFind), .imm 3 ((⟨t3xNo, t3xFinds, t3xSecrets, t3xSlots, t3xClaims, t3xTrials, t3xChain, t3xBook, t3xNow⟩ : House).Secrets.map cSecret), .imm 3 ((⟨t3xNo, t3xFinds, t3xSecrets, t3xSlots, t3xClaims, t3xTrials, t3xChain, t3xBook, t3xNow⟩ : House).Slots.map cSlot), .imm 5 ((⟨t3xNo, t3xFinds, t3xSecrets, t3xSlots, t3xClaims, t3xTrials, t3xChain, t3xBook, t3xNow⟩ : House).Claims.map cClaim), .imm 4 ((⟨t3xNo, t3xFinds, t3xSecrets, t3xSlots, t3xClaims, t3xTrials, t3xChain, t3xBook, t3xNow⟩ : House).Trials.map cTrial), .imm 5 ((⟨t3xNo, t3xFinds, t3xSecrets, t3xSlots, t3xClaims, t3xTrials, t3xChain, t3xBook, t3xNow⟩ : House).Chain.map cHand), .imm 4 ((⟨t3xNo, t3xFinds, t3xSecrets, t3xSlots, t3xClaims, t3xTrials, t3xChain, t3xBook, t3xNow⟩ : House).Book.map cEntry), .i .i64 (⟨t3xNo, t3xFinds, t3xSecrets, t3xSlots, t3xClaims, t3xTrials, t3xChain, t3xBook, t3xNow⟩ : House).Now])])) := by
  obtain ⟨rfl⟩ := H1
  obtain ⟨rfl⟩ := H2
  obtain ⟨rfl⟩ := H3
  obtain ⟨rfl⟩ := H4
  obtain ⟨rfl⟩ := H5
  obtain ⟨rfl⟩ := H6
  obtain ⟨rfl⟩ := H7
  obtain ⟨rfl⟩ := H8
  obtain ⟨rfl⟩ := H9
  obtain ⟨rfl⟩ := H10
  obtain ⟨rfl⟩ := H11
  obtain ⟨rfl⟩ := H12
  obtain ⟨rfl⟩ := H13
  obtain ⟨rfl⟩ := H14
  rw [LP_eq]
  simp -dsimp only [↓evA, evB, lpG_eq, Try.func72, Try.f72, a72, TP, Nat.reduceAdd, Nat.reduceMul, Nat.reduceBEq, Nat.reduceLeDiff, Nat.reduceLT]
  refine run_map (fun (zs : Int) => (frm [(2, .ptr 0 0 0), (3, .ptr 1 0 0), (6, .i .i64 zs)], [some (Ent.box [.i .i64 (⟨t2xNo, t2xFinds, t2xSecrets, t2xSlots, t2xClaims, t2xTrials, t2xChain, t2xBook, t2xNow⟩ : House).No, .imm 8 ((⟨t2xNo, t2xFinds, t2xSecrets, t2xSlots, t2xClaims, t2xTrials, t2xChain, t2xBook, t2xNow⟩ : House).Finds.map cFind), .imm 3 ((⟨t2xNo, t2xFinds, t2xSecrets, t2xSlots, t2xClaims, t2xTrials, t2xChain, t2xBook, t2xNow⟩ : House).Secrets.map cSecret), .imm 3 ((⟨t2xNo, t2xFinds, t2xSecrets, t2xSlots, t2xClaims, t2xTrials, t2xChain, t2xBook, t2xNow⟩ : House).Slots.map cSlot), .imm 5 ((⟨t2xNo, t2xFinds, t2xSecrets, t2xSlots, t2xClaims, t2xTrials, t2xChain, t2xBook, t2xNow⟩ : House).Claims.map cClaim), .imm 4 ((⟨t2xNo, t2xFinds, t2xSecrets, t2xSlots, t2xClaims, t2xTrials, t2xChain, t2xBook, t2xNow⟩ : House).Trials.map cTrial), .imm 5 ((⟨t2xNo, t2xFinds, t2xSecrets, t2xSlots, t2xClaims, t2xTrials, t2xChain, t2xBook, t2xNow⟩ : House).Chain.map cHand), .imm 4 ((⟨t2xNo, t2xFinds, t2xSecrets, t2xSlots, t2xClaims, t2xTrials, t2xChain, t2xBook, t2xNow⟩ : House).Book.map cEntry), .i .i64 (⟨t2xNo, t2xFinds, t2xSecrets, t2xSlots, t2xClaims, t2xTrials, t2xChain, t2xBook, t2xNow⟩ : House).Now]), some (Ent.box [.i .i64 (⟨t3xNo, t3xFinds, t3xSecrets, t3xSlots, t3xClaims, t3xTrials, t3xChain, t3xBook, t3xNow⟩ : House).No, .imm 8 ((⟨t3xNo, t3xFinds, t3xSecrets, t3xSlots, t3xClaims, t3xTrials, t3xChain, t3xBook, t3xNow⟩ : House).Finds.map cFind), .imm 3 ((⟨t3xNo, t3xFinds, t3xSecrets, t3xSlots, t3xClaims, t3xTrials, t3xChain, t3xBook, t3xNow⟩ : House).Secrets.map cSecret), .imm 3 ((⟨t3xNo, t3xFinds, t3xSecrets, t3xSlots, t3xClaims, t3xTrials, t3xChain, t3xBook, t3xNow⟩ : House).Slots.map cSlot), .imm 5 ((⟨t3xNo, t3xFinds, t3xSecrets, t3xSlots, t3xClaims, t3xTrials, t3xChain, t3xBook, t3xNow⟩ : House).Claims.map cClaim), .imm 4 ((⟨t3xNo, t3xFinds, t3xSecrets, t3xSlots, t3xClaims, t3xTrials, t3xChain, t3xBook, t3xNow⟩ : House).Trials.map cTrial), .imm 5 ((⟨t3xNo, t3xFinds, t3xSecrets, t3xSlots, t3xClaims, t3xTrials, t3xChain, t3xBook, t3xNow⟩ : House).Chain.map cHand), .imm 4 ((⟨t3xNo, t3xFinds, t3xSecrets, t3xSlots, t3xClaims, t3xTrials, t3xChain, t3xBook, t3xNow⟩ : House).Book.map cEntry), .i .i64 (⟨t3xNo, t3xFinds, t3xSecrets, t3xSlots, t3xClaims, t3xTrials, t3xChain, t3xBook, t3xNow⟩ : House).Now])])) (evO (fun (zr : Bool) => (XE.ret, frm [(4, .b zr)], [])) (fun (zr : Unit) => (XE.exit 2, frm [(2, .ptr 0 0 0), (3, .ptr 1 0 0)], [some (Ent.box [.i .i64 (⟨t2xNo, t2xFinds, t2xSecrets, t2xSlots, t2xClaims, t2xTrials, t2xChain, t2xBook, t2xNow⟩ : House).No, .imm 8 ((⟨t2xNo, t2xFinds, t2xSecrets, t2xSlots, t2xClaims, t2xTrials, t2xChain, t2xBook, t2xNow⟩ : House).Finds.map cFind), .imm 3 ((⟨t2xNo, t2xFinds, t2xSecrets, t2xSlots, t2xClaims, t2xTrials, t2xChain, t2xBook, t2xNow⟩ : House).Secrets.map cSecret), .imm 3 ((⟨t2xNo, t2xFinds, t2xSecrets, t2xSlots, t2xClaims, t2xTrials, t2xChain, t2xBook, t2xNow⟩ : House).Slots.map cSlot), .imm 5 ((⟨t2xNo, t2xFinds, t2xSecrets, t2xSlots, t2xClaims, t2xTrials, t2xChain, t2xBook, t2xNow⟩ : House).Claims.map cClaim), .imm 4 ((⟨t2xNo, t2xFinds, t2xSecrets, t2xSlots, t2xClaims, t2xTrials, t2xChain, t2xBook, t2xNow⟩ : House).Trials.map cTrial), .imm 5 ((⟨t2xNo, t2xFinds, t2xSecrets, t2xSlots, t2xClaims, t2xTrials, t2xChain, t2xBook, t2xNow⟩ : House).Chain.map cHand), .imm 4 ((⟨t2xNo, t2xFinds, t2xSecrets, t2xSlots, t2xClaims, t2xTrials, t2xChain, t2xBook, t2xNow⟩ : House).Book.map cEntry), .i .i64 (⟨t2xNo, t2xFinds, t2xSecrets, t2xSlots, t2xClaims, t2xTrials, t2xChain, t2xBook, t2xNow⟩ : House).Now]), some (Ent.box [.i .i64 (⟨t3xNo, t3xFinds, t3xSecrets, t3xSlots, t3xClaims, t3xTrials, t3xChain, t3xBook, t3xNow⟩ : House).No, .imm 8 ((⟨t3xNo, t3xFinds, t3xSecrets, t3xSlots, t3xClaims, t3xTrials, t3xChain, t3xBook, t3xNow⟩ : House).Finds.map cFind), .imm 3 ((⟨t3xNo, t3xFinds, t3xSecrets, t3xSlots, t3xClaims, t3xTrials, t3xChain, t3xBook, t3xNow⟩ : House).Secrets.map cSecret), .imm 3 ((⟨t3xNo, t3xFinds, t3xSecrets, t3xSlots, t3xClaims, t3xTrials, t3xChain, t3xBook, t3xNow⟩ : House).Slots.map cSlot), .imm 5 ((⟨t3xNo, t3xFinds, t3xSecrets, t3xSlots, t3xClaims, t3xTrials, t3xChain, t3xBook, t3xNow⟩ : House).Claims.map cClaim), .imm 4 ((⟨t3xNo, t3xFinds, t3xSecrets, t3xSlots, t3xClaims, t3xTrials, t3xChain, t3xBook, t3xNow⟩ : House).Trials.map cTrial), .imm 5 ((⟨t3xNo, t3xFinds, t3xSecrets, t3xSlots, t3xClaims, t3xTrials, t3xChain, t3xBook, t3xNow⟩ : House).Chain.map cHand), .imm 4 ((⟨t3xNo, t3xFinds, t3xSecrets, t3xSlots, t3xClaims, t3xTrials, t3xChain, t3xBook, t3xNow⟩ : House).Book.map cEntry), .i .i64 (⟨t3xNo, t3xFinds, t3xSecrets, t3xSlots, t3xClaims, t3xTrials, t3xChain, t3xBook, t3xNow⟩ : House).Now])]))) ?_ t6
  intro t6
  simp -dsimp +contextual only [↓evA, evB, evT, tys, encs, Nat.reduceAdd, Nat.reduceMul, Nat.reduceBEq, Nat.reduceLeDiff, Nat.reduceLT, TP, orc_p, orc_l]
  try simp only [spec_l33Lists_l9, evT, encs, c_js, r_map_some, e_need_t]
  all_goals rfl
theorem e_spec_l33Lists_l14 (n : Nat) (t2xNo : Int) {R1} {t2xFinds : List Find} {R2} {t2xSecrets : List Secret} {R3} {t2xSlots : List Slot} {R4} {t2xClaims : List Claim} {R5} {t2xTrials : List Trial} {R6} {t2xChain : List Hand} {R7} {t2xBook : List Entry} (t2xNow : Int) (t3xNo : Int) {R8} {t3xFinds : List Find} {R9} {t3xSecrets : List Secret} {R10} {t3xSlots : List Slot} {R11} {t3xClaims : List Claim} {R12} {t3xTrials : List Trial} {R13} {t3xChain : List Hand} {R14} {t3xBook : List Entry} (t3xNow : Int) (t7 : Int) [H1 : EncL cFind R1 t2xFinds] [H2 : EncL cSecret R2 t2xSecrets] [H3 : EncL cSlot R3 t2xSlots] [H4 : EncL cClaim R4 t2xClaims] [H5 : EncL cTrial R5 t2xTrials] [H6 : EncL cHand R6 t2xChain] [H7 : EncL cEntry R7 t2xBook] [H8 : EncL cFind R8 t3xFinds] [H9 : EncL cSecret R9 t3xSecrets] [H10 : EncL cSlot R10 t3xSlots] [H11 : EncL cClaim R11 t3xClaims] [H12 : EncL cTrial R12 t3xTrials] [H13 : EncL cHand R13 t3xChain] [H14 : EncL cEntry R14 t3xBook] : LP T (n + 1) 72 14 (frm [(2, .ptr 0 0 0), (3, .ptr 1 0 0), (7, .i .i64 t7)]) [some (Ent.box [.i .i64 t2xNo, .imm 8 R1, .imm 3 R2, .imm 3 R3, .imm 5 R4, .imm 4 R5, .imm 5 R6, .imm 4 R7, .i .i64 t2xNow]), some (Ent.box [.i .i64 t3xNo, .imm 8 R8, .imm 3 R9, .imm 3 R10, .imm 5 R11, .imm 4 R12, .imm 5 R13, .imm 4 R14, .i .i64 t3xNow])] =
    lmap (run (spec_l33Lists_l14 (⟨t2xNo, t2xFinds, t2xSecrets, t2xSlots, t2xClaims, t2xTrials, t2xChain, t2xBook, t2xNow⟩ : House) (⟨t3xNo, t3xFinds, t3xSecrets, t3xSlots, t3xClaims, t3xTrials, t3xChain, t3xBook, t3xNow⟩ : House)) t7) (fun (zr : Bool) => (XE.ret, frm [(4, .b zr)], [])) (fun (zr : Unit) => (XE.exit 4, frm [(2, .ptr 0 0 0), (3, .ptr 1 0 0)], [some (Ent.box [.i .i64 (⟨t2xNo, t2xFinds, t2xSecrets, t2xSlots, t2xClaims, t2xTrials, t2xChain, t2xBook, t2xNow⟩ : House).No, .imm 8 ((⟨t2xNo, t2xFinds, t2xSecrets, t2xSlots, t2xClaims, t2xTrials, t2xChain, t2xBook, t2xNow⟩ : House).Finds.map cFind), .imm 3 ((⟨t2xNo, t2xFinds, t2xSecrets, t2xSlots, t2xClaims, t2xTrials, t2xChain, t2xBook, t2xNow⟩ : House).Secrets.map cSecret), .imm 3 ((⟨t2xNo, t2xFinds, t2xSecrets, t2xSlots, t2xClaims, t2xTrials, t2xChain, t2xBook, t2xNow⟩ : House).Slots.map cSlot), .imm 5 ((⟨t2xNo, t2xFinds, t2xSecrets, t2xSlots, t2xClaims, t2xTrials, t2xChain, t2xBook, t2xNow⟩ : House).Claims.map cClaim), .imm 4 ((⟨t2xNo, t2xFinds, t2xSecrets, t2xSlots, t2xClaims, t2xTrials, t2xChain, t2xBook, t2xNow⟩ : House).Trials.map cTrial), .imm 5 ((⟨t2xNo, t2xFinds, t2xSecrets, t2xSlots, t2xClaims, t2xTrials, t2xChain, t2xBook, t2xNow⟩ : House).Chain.map cHand), .imm 4 ((⟨t2xNo, t2xFinds, t2xSecrets, t2xSlots, t2xClaims, t2xTrials, t2xChain, t2xBook, t2xNow⟩ : House).Book.map cEntry), .i .i64 (⟨t2xNo, t2xFinds, t2xSecrets, t2xSlots, t2xClaims, t2xTrials, t2xChain, t2xBook, t2xNow⟩ : House).Now]), some (Ent.box [.i .i64 (⟨t3xNo, t3xFinds, t3xSecrets, t3xSlots, t3xClaims, t3xTrials, t3xChain, t3xBook, t3xNow⟩ : House).No, .imm 8 ((⟨t3xNo, t3xFinds, t3xSecrets, t3xSlots, t3xClaims, t3xTrials, t3xChain, t3xBook, t3xNow⟩ : House).Finds.map cFind), .imm 3 ((⟨t3xNo, t3xFinds, t3xSecrets, t3xSlots, t3xClaims, t3xTrials, t3xChain, t3xBook, t3xNow⟩ : House).Secrets.map cSecret), .imm 3 ((⟨t3xNo, t3xFinds, t3xSecrets, t3xSlots, t3xClaims, t3xTrials, t3xChain, t3xBook, t3xNow⟩ : House).Slots.map cSlot), .imm 5 ((⟨t3xNo, t3xFinds, t3xSecrets, t3xSlots, t3xClaims, t3xTrials, t3xChain, t3xBook, t3xNow⟩ : House).Claims.map cClaim), .imm 4 ((⟨t3xNo, t3xFinds, t3xSecrets, t3xSlots, t3xClaims, t3xTrials, t3xChain, t3xBook, t3xNow⟩ : House).Trials.map cTrial), .imm 5 ((⟨t3xNo, t3xFinds, t3xSecrets, t3xSlots, t3xClaims, t3xTrials, t3xChain, t3xBook, t3xNow⟩ : House).Chain.map cHand), .imm 4 ((⟨t3xNo, t3xFinds, t3xSecrets, t3xSlots, t3xClaims, t3xTrials, t3xChain, t3xBook, t3xNow⟩ : House).Book.map cEntry), .i .i64 (⟨t3xNo, t3xFinds, t3xSecrets, t3xSlots, t3xClaims, t3xTrials, t3xChain, t3xBook, t3xNow⟩ : House).Now])])) := by
  obtain ⟨rfl⟩ := H1
  obtain ⟨rfl⟩ := H2
  obtain ⟨rfl⟩ := H3
  obtain ⟨rfl⟩ := H4
  obtain ⟨rfl⟩ := H5
  obtain ⟨rfl⟩ := H6
  obtain ⟨rfl⟩ := H7
  obtain ⟨rfl⟩ := H8
  obtain ⟨rfl⟩ := H9
  obtain ⟨rfl⟩ := H10
  obtain ⟨rfl⟩ := H11
  obtain ⟨rfl⟩ := H12
  obtain ⟨rfl⟩ := H13
  obtain ⟨rfl⟩ := H14
  rw [LP_eq]
  simp -dsimp only [↓evA, evB, lpG_eq, Try.func72, Try.f72, a72, TP, Nat.reduceAdd, Nat.reduceMul, Nat.reduceBEq, Nat.reduceLeDiff, Nat.reduceLT]
  refine run_map (fun (zs : Int) => (frm [(2, .ptr 0 0 0), (3, .ptr 1 0 0), (7, .i .i64 zs)], [some (Ent.box [.i .i64 (⟨t2xNo, t2xFinds, t2xSecrets, t2xSlots, t2xClaims, t2xTrials, t2xChain, t2xBook, t2xNow⟩ : House).No, .imm 8 ((⟨t2xNo, t2xFinds, t2xSecrets, t2xSlots, t2xClaims, t2xTrials, t2xChain, t2xBook, t2xNow⟩ : House).Finds.map cFind), .imm 3 ((⟨t2xNo, t2xFinds, t2xSecrets, t2xSlots, t2xClaims, t2xTrials, t2xChain, t2xBook, t2xNow⟩ : House).Secrets.map cSecret), .imm 3 ((⟨t2xNo, t2xFinds, t2xSecrets, t2xSlots, t2xClaims, t2xTrials, t2xChain, t2xBook, t2xNow⟩ : House).Slots.map cSlot), .imm 5 ((⟨t2xNo, t2xFinds, t2xSecrets, t2xSlots, t2xClaims, t2xTrials, t2xChain, t2xBook, t2xNow⟩ : House).Claims.map cClaim), .imm 4 ((⟨t2xNo, t2xFinds, t2xSecrets, t2xSlots, t2xClaims, t2xTrials, t2xChain, t2xBook, t2xNow⟩ : House).Trials.map cTrial), .imm 5 ((⟨t2xNo, t2xFinds, t2xSecrets, t2xSlots, t2xClaims, t2xTrials, t2xChain, t2xBook, t2xNow⟩ : House).Chain.map cHand), .imm 4 ((⟨t2xNo, t2xFinds, t2xSecrets, t2xSlots, t2xClaims, t2xTrials, t2xChain, t2xBook, t2xNow⟩ : House).Book.map cEntry), .i .i64 (⟨t2xNo, t2xFinds, t2xSecrets, t2xSlots, t2xClaims, t2xTrials, t2xChain, t2xBook, t2xNow⟩ : House).Now]), some (Ent.box [.i .i64 (⟨t3xNo, t3xFinds, t3xSecrets, t3xSlots, t3xClaims, t3xTrials, t3xChain, t3xBook, t3xNow⟩ : House).No, .imm 8 ((⟨t3xNo, t3xFinds, t3xSecrets, t3xSlots, t3xClaims, t3xTrials, t3xChain, t3xBook, t3xNow⟩ : House).Finds.map cFind), .imm 3 ((⟨t3xNo, t3xFinds, t3xSecrets, t3xSlots, t3xClaims, t3xTrials, t3xChain, t3xBook, t3xNow⟩ : House).Secrets.map cSecret), .imm 3 ((⟨t3xNo, t3xFinds, t3xSecrets, t3xSlots, t3xClaims, t3xTrials, t3xChain, t3xBook, t3xNow⟩ : House).Slots.map cSlot), .imm 5 ((⟨t3xNo, t3xFinds, t3xSecrets, t3xSlots, t3xClaims, t3xTrials, t3xChain, t3xBook, t3xNow⟩ : House).Claims.map cClaim), .imm 4 ((⟨t3xNo, t3xFinds, t3xSecrets, t3xSlots, t3xClaims, t3xTrials, t3xChain, t3xBook, t3xNow⟩ : House).Trials.map cTrial), .imm 5 ((⟨t3xNo, t3xFinds, t3xSecrets, t3xSlots, t3xClaims, t3xTrials, t3xChain, t3xBook, t3xNow⟩ : House).Chain.map cHand), .imm 4 ((⟨t3xNo, t3xFinds, t3xSecrets, t3xSlots, t3xClaims, t3xTrials, t3xChain, t3xBook, t3xNow⟩ : House).Book.map cEntry), .i .i64 (⟨t3xNo, t3xFinds, t3xSecrets, t3xSlots, t3xClaims, t3xTrials, t3xChain, t3xBook, t3xNow⟩ : House).Now])])) (evO (fun (zr : Bool) => (XE.ret, frm [(4, .b zr)], [])) (fun (zr : Unit) => (XE.exit 4, frm [(2, .ptr 0 0 0), (3, .ptr 1 0 0)], [some (Ent.box [.i .i64 (⟨t2xNo, t2xFinds, t2xSecrets, t2xSlots, t2xClaims, t2xTrials, t2xChain, t2xBook, t2xNow⟩ : House).No, .imm 8 ((⟨t2xNo, t2xFinds, t2xSecrets, t2xSlots, t2xClaims, t2xTrials, t2xChain, t2xBook, t2xNow⟩ : House).Finds.map cFind), .imm 3 ((⟨t2xNo, t2xFinds, t2xSecrets, t2xSlots, t2xClaims, t2xTrials, t2xChain, t2xBook, t2xNow⟩ : House).Secrets.map cSecret), .imm 3 ((⟨t2xNo, t2xFinds, t2xSecrets, t2xSlots, t2xClaims, t2xTrials, t2xChain, t2xBook, t2xNow⟩ : House).Slots.map cSlot), .imm 5 ((⟨t2xNo, t2xFinds, t2xSecrets, t2xSlots, t2xClaims, t2xTrials, t2xChain, t2xBook, t2xNow⟩ : House).Claims.map cClaim), .imm 4 ((⟨t2xNo, t2xFinds, t2xSecrets, t2xSlots, t2xClaims, t2xTrials, t2xChain, t2xBook, t2xNow⟩ : House).Trials.map cTrial), .imm 5 ((⟨t2xNo, t2xFinds, t2xSecrets, t2xSlots, t2xClaims, t2xTrials, t2xChain, t2xBook, t2xNow⟩ : House).Chain.map cHand), .imm 4 ((⟨t2xNo, t2xFinds, t2xSecrets, t2xSlots, t2xClaims, t2xTrials, t2xChain, t2xBook, t2xNow⟩ : House).Book.map cEntry), .i .i64 (⟨t2xNo, t2xFinds, t2xSecrets, t2xSlots, t2xClaims, t2xTrials, t2xChain, t2xBook, t2xNow⟩ : House).Now]), some (Ent.box [.i .i64 (⟨t3xNo, t3xFinds, t3xSecrets, t3xSlots, t3xClaims, t3xTrials, t3xChain, t3xBook, t3xNow⟩ : House).No, .imm 8 ((⟨t3xNo, t3xFinds, t3xSecrets, t3xSlots, t3xClaims, t3xTrials, t3xChain, t3xBook, t3xNow⟩ : House).Finds.map cFind), .imm 3 ((⟨t3xNo, t3xFinds, t3xSecrets, t3xSlots, t3xClaims, t3xTrials, t3xChain, t3xBook, t3xNow⟩ : House).Secrets.map cSecret), .imm 3 ((⟨t3xNo, t3xFinds, t3xSecrets, t3xSlots, t3xClaims, t3xTrials, t3xChain, t3xBook, t3xNow⟩ : House).Slots.map cSlot), .imm 5 ((⟨t3xNo, t3xFinds, t3xSecrets, t3xSlots, t3xClaims, t3xTrials, t3xChain, t3xBook, t3xNow⟩ : House).Claims.map cClaim), .imm 4 ((⟨t3xNo, t3xFinds, t3xSecrets, t3xSlots, t3xClaims, t3xTrials, t3xChain, t3xBook, t3xNow⟩ : House).Trials.map cTrial), .imm 5 ((⟨t3xNo, t3xFinds, t3xSecrets, t3xSlots, t3xClaims, t3xTrials, t3xChain, t3xBook, t3xNow⟩ : House).Chain.map cHand), .imm 4 ((⟨t3xNo, t3xFinds, t3xSecrets, t3xSlots, t3xClaims, t3xTrials, t3xChain, t3xBook, t3xNow⟩ : House).Book.map cEntry), .i .i64 (⟨t3xNo, t3xFinds, t3xSecrets, t3xSlots, t3xClaims, t3xTrials, t3xChain, t3xBook, t3xNow⟩ : House).Now])]))) ?_ t7
  intro t7
  simp -dsimp +contextual only [↓evA, evB, evT, tys, encs, Nat.reduceAdd, Nat.reduceMul, Nat.reduceBEq, Nat.reduceLeDiff, Nat.reduceLT, TP, orc_p, orc_l]
  try simp only [spec_l33Lists_l14, evT, encs, c_js, r_map_some, e_need_t]
  all_goals rfl
theorem e_spec_l33Lists_l19 (n : Nat) (t2xNo : Int) {R1} {t2xFinds : List Find} {R2} {t2xSecrets : List Secret} {R3} {t2xSlots : List Slot} {R4} {t2xClaims : List Claim} {R5} {t2xTrials : List Trial} {R6} {t2xChain : List Hand} {R7} {t2xBook : List Entry} (t2xNow : Int) (t3xNo : Int) {R8} {t3xFinds : List Find} {R9} {t3xSecrets : List Secret} {R10} {t3xSlots : List Slot} {R11} {t3xClaims : List Claim} {R12} {t3xTrials : List Trial} {R13} {t3xChain : List Hand} {R14} {t3xBook : List Entry} (t3xNow : Int) (t8 : Int) [H1 : EncL cFind R1 t2xFinds] [H2 : EncL cSecret R2 t2xSecrets] [H3 : EncL cSlot R3 t2xSlots] [H4 : EncL cClaim R4 t2xClaims] [H5 : EncL cTrial R5 t2xTrials] [H6 : EncL cHand R6 t2xChain] [H7 : EncL cEntry R7 t2xBook] [H8 : EncL cFind R8 t3xFinds] [H9 : EncL cSecret R9 t3xSecrets] [H10 : EncL cSlot R10 t3xSlots] [H11 : EncL cClaim R11 t3xClaims] [H12 : EncL cTrial R12 t3xTrials] [H13 : EncL cHand R13 t3xChain] [H14 : EncL cEntry R14 t3xBook] : LP T (n + 1) 72 19 (frm [(2, .ptr 0 0 0), (3, .ptr 1 0 0), (8, .i .i64 t8)]) [some (Ent.box [.i .i64 t2xNo, .imm 8 R1, .imm 3 R2, .imm 3 R3, .imm 5 R4, .imm 4 R5, .imm 5 R6, .imm 4 R7, .i .i64 t2xNow]), some (Ent.box [.i .i64 t3xNo, .imm 8 R8, .imm 3 R9, .imm 3 R10, .imm 5 R11, .imm 4 R12, .imm 5 R13, .imm 4 R14, .i .i64 t3xNow])] =
    lmap (run (spec_l33Lists_l19 (⟨t2xNo, t2xFinds, t2xSecrets, t2xSlots, t2xClaims, t2xTrials, t2xChain, t2xBook, t2xNow⟩ : House) (⟨t3xNo, t3xFinds, t3xSecrets, t3xSlots, t3xClaims, t3xTrials, t3xChain, t3xBook, t3xNow⟩ : House)) t8) (fun (zr : Bool) => (XE.ret, frm [(4, .b zr)], [])) (fun (zr : Unit) => (XE.exit 6, frm [], [])) := by
  obtain ⟨rfl⟩ := H1
  obtain ⟨rfl⟩ := H2
  obtain ⟨rfl⟩ := H3
  obtain ⟨rfl⟩ := H4
  obtain ⟨rfl⟩ := H5
  obtain ⟨rfl⟩ := H6
  obtain ⟨rfl⟩ := H7
  obtain ⟨rfl⟩ := H8
  obtain ⟨rfl⟩ := H9
  obtain ⟨rfl⟩ := H10
  obtain ⟨rfl⟩ := H11
  obtain ⟨rfl⟩ := H12
  obtain ⟨rfl⟩ := H13
  obtain ⟨rfl⟩ := H14
  rw [LP_eq]
  simp -dsimp only [↓evA, evB, lpG_eq, Try.func72, Try.f72, a72, TP, Nat.reduceAdd, Nat.reduceMul, Nat.reduceBEq, Nat.reduceLeDiff, Nat.reduceLT]
  refine run_map (fun (zs : Int) => (frm [(2, .ptr 0 0 0), (3, .ptr 1 0 0), (8, .i .i64 zs)], [some (Ent.box [.i .i64 (⟨t2xNo, t2xFinds, t2xSecrets, t2xSlots, t2xClaims, t2xTrials, t2xChain, t2xBook, t2xNow⟩ : House).No, .imm 8 ((⟨t2xNo, t2xFinds, t2xSecrets, t2xSlots, t2xClaims, t2xTrials, t2xChain, t2xBook, t2xNow⟩ : House).Finds.map cFind), .imm 3 ((⟨t2xNo, t2xFinds, t2xSecrets, t2xSlots, t2xClaims, t2xTrials, t2xChain, t2xBook, t2xNow⟩ : House).Secrets.map cSecret), .imm 3 ((⟨t2xNo, t2xFinds, t2xSecrets, t2xSlots, t2xClaims, t2xTrials, t2xChain, t2xBook, t2xNow⟩ : House).Slots.map cSlot), .imm 5 ((⟨t2xNo, t2xFinds, t2xSecrets, t2xSlots, t2xClaims, t2xTrials, t2xChain, t2xBook, t2xNow⟩ : House).Claims.map cClaim), .imm 4 ((⟨t2xNo, t2xFinds, t2xSecrets, t2xSlots, t2xClaims, t2xTrials, t2xChain, t2xBook, t2xNow⟩ : House).Trials.map cTrial), .imm 5 ((⟨t2xNo, t2xFinds, t2xSecrets, t2xSlots, t2xClaims, t2xTrials, t2xChain, t2xBook, t2xNow⟩ : House).Chain.map cHand), .imm 4 ((⟨t2xNo, t2xFinds, t2xSecrets, t2xSlots, t2xClaims, t2xTrials, t2xChain, t2xBook, t2xNow⟩ : House).Book.map cEntry), .i .i64 (⟨t2xNo, t2xFinds, t2xSecrets, t2xSlots, t2xClaims, t2xTrials, t2xChain, t2xBook, t2xNow⟩ : House).Now]), some (Ent.box [.i .i64 (⟨t3xNo, t3xFinds, t3xSecrets, t3xSlots, t3xClaims, t3xTrials, t3xChain, t3xBook, t3xNow⟩ : House).No, .imm 8 ((⟨t3xNo, t3xFinds, t3xSecrets, t3xSlots, t3xClaims, t3xTrials, t3xChain, t3xBook, t3xNow⟩ : House).Finds.map cFind), .imm 3 ((⟨t3xNo, t3xFinds, t3xSecrets, t3xSlots, t3xClaims, t3xTrials, t3xChain, t3xBook, t3xNow⟩ : House).Secrets.map cSecret), .imm 3 ((⟨t3xNo, t3xFinds, t3xSecrets, t3xSlots, t3xClaims, t3xTrials, t3xChain, t3xBook, t3xNow⟩ : House).Slots.map cSlot), .imm 5 ((⟨t3xNo, t3xFinds, t3xSecrets, t3xSlots, t3xClaims, t3xTrials, t3xChain, t3xBook, t3xNow⟩ : House).Claims.map cClaim), .imm 4 ((⟨t3xNo, t3xFinds, t3xSecrets, t3xSlots, t3xClaims, t3xTrials, t3xChain, t3xBook, t3xNow⟩ : House).Trials.map cTrial), .imm 5 ((⟨t3xNo, t3xFinds, t3xSecrets, t3xSlots, t3xClaims, t3xTrials, t3xChain, t3xBook, t3xNow⟩ : House).Chain.map cHand), .imm 4 ((⟨t3xNo, t3xFinds, t3xSecrets, t3xSlots, t3xClaims, t3xTrials, t3xChain, t3xBook, t3xNow⟩ : House).Book.map cEntry), .i .i64 (⟨t3xNo, t3xFinds, t3xSecrets, t3xSlots, t3xClaims, t3xTrials, t3xChain, t3xBook, t3xNow⟩ : House).Now])])) (evO (fun (zr : Bool) => (XE.ret, frm [(4, .b zr)], [])) (fun (zr : Unit) => (XE.exit 6, frm [], []))) ?_ t8
  intro t8
  simp -dsimp +contextual only [↓evA, evB, evT, tys, encs, Nat.reduceAdd, Nat.reduceMul, Nat.reduceBEq, Nat.reduceLeDiff, Nat.reduceLT, TP, orc_p, orc_l]
  try simp only [spec_l33Lists_l19, evT, encs, c_js, r_map_some, e_need_t]
  all_goals rfl
theorem e_spec_l33Lists (n : Nat) (axNo : Int) {R1} {axFinds : List Find} {R2} {axSecrets : List Secret} {R3} {axSlots : List Slot} {R4} {axClaims : List Claim} {R5} {axTrials : List Trial} {R6} {axChain : List Hand} {R7} {axBook : List Entry} (axNow : Int) (a2xNo : Int) {R8} {a2xFinds : List Find} {R9} {a2xSecrets : List Secret} {R10} {a2xSlots : List Slot} {R11} {a2xClaims : List Claim} {R12} {a2xTrials : List Trial} {R13} {a2xChain : List Hand} {R14} {a2xBook : List Entry} (a2xNow : Int) [H1 : EncL cFind R1 axFinds] [H2 : EncL cSecret R2 axSecrets] [H3 : EncL cSlot R3 axSlots] [H4 : EncL cClaim R4 axClaims] [H5 : EncL cTrial R5 axTrials] [H6 : EncL cHand R6 axChain] [H7 : EncL cEntry R7 axBook] [H8 : EncL cFind R8 a2xFinds] [H9 : EncL cSecret R9 a2xSecrets] [H10 : EncL cSlot R10 a2xSlots] [H11 : EncL cClaim R11 a2xClaims] [H12 : EncL cTrial R12 a2xTrials] [H13 : EncL cHand R13 a2xChain] [H14 : EncL cEntry R14 a2xBook] : CP T (n + 2) 72 [.agg [.i .i64 axNo, .imm 8 R1, .imm 3 R2, .imm 3 R3, .imm 5 R4, .imm 4 R5, .imm 5 R6, .imm 4 R7, .i .i64 axNow], .agg [.i .i64 a2xNo, .imm 8 R8, .imm 3 R9, .imm 3 R10, .imm 5 R11, .imm 4 R12, .imm 5 R13, .imm 4 R14, .i .i64 a2xNow]] = (spec_l33Lists (⟨axNo, axFinds, axSecrets, axSlots, axClaims, axTrials, axChain, axBook, axNow⟩ : House) (⟨a2xNo, a2xFinds, a2xSecrets, a2xSlots, a2xClaims, a2xTrials, a2xChain, a2xBook, a2xNow⟩ : House)).map fun r => .b r := by
  obtain ⟨rfl⟩ := H1
  obtain ⟨rfl⟩ := H2
  obtain ⟨rfl⟩ := H3
  obtain ⟨rfl⟩ := H4
  obtain ⟨rfl⟩ := H5
  obtain ⟨rfl⟩ := H6
  obtain ⟨rfl⟩ := H7
  obtain ⟨rfl⟩ := H8
  obtain ⟨rfl⟩ := H9
  obtain ⟨rfl⟩ := H10
  obtain ⟨rfl⟩ := H11
  obtain ⟨rfl⟩ := H12
  obtain ⟨rfl⟩ := H13
  obtain ⟨rfl⟩ := H14
  rw [CP_eq]
  simp -dsimp +contextual only [↓evA, evB, evT, tys, encs, Nat.reduceAdd, Nat.reduceMul, Nat.reduceBEq, Nat.reduceLeDiff, Nat.reduceLT, Try.func72, Try.f72, a72, TP, orc_p, orc_l, e_spec_l33Lists_l4, e_spec_l33Lists_l9, e_spec_l33Lists_l14, e_spec_l33Lists_l19]
  try simp only [spec_l33Lists, evT, encs, c_js, r_map_some, e_need_t]
  all_goals rfl
theorem e_spec_l33Chains_l4 (n : Nat) (axNo : Int) {R1} {axFinds : List Find} {R2} {axSecrets : List Secret} {R3} {axSlots : List Slot} {R4} {axClaims : List Claim} {R5} {axTrials : List Trial} {R6} {axChain : List Hand} {R7} {axBook : List Entry} (axNow : Int) (bxNo : Int) {R8} {bxFinds : List Find} {R9} {bxSecrets : List Secret} {R10} {bxSlots : List Slot} {R11} {bxClaims : List Claim} {R12} {bxTrials : List Trial} {R13} {bxChain : List Hand} {R14} {bxBook : List Entry} (bxNow : Int) (i : Int) [H1 : EncL cFind R1 axFinds] [H2 : EncL cSecret R2 axSecrets] [H3 : EncL cSlot R3 axSlots] [H4 : EncL cClaim R4 axClaims] [H5 : EncL cTrial R5 axTrials] [H6 : EncL cHand R6 axChain] [H7 : EncL cEntry R7 axBook] [H8 : EncL cFind R8 bxFinds] [H9 : EncL cSecret R9 bxSecrets] [H10 : EncL cSlot R10 bxSlots] [H11 : EncL cClaim R11 bxClaims] [H12 : EncL cTrial R12 bxTrials] [H13 : EncL cHand R13 bxChain] [H14 : EncL cEntry R14 bxBook] : LP T (n + 1) 73 4 (frm [(2, .ptr 0 0 0), (3, .ptr 1 0 0), (5, .i .i64 i)]) [some (Ent.box [.i .i64 axNo, .imm 8 R1, .imm 3 R2, .imm 3 R3, .imm 5 R4, .imm 4 R5, .imm 5 R6, .imm 4 R7, .i .i64 axNow]), some (Ent.box [.i .i64 bxNo, .imm 8 R8, .imm 3 R9, .imm 3 R10, .imm 5 R11, .imm 4 R12, .imm 5 R13, .imm 4 R14, .i .i64 bxNow])] =
    lmap (run (spec_l33Chains_l4 (⟨axNo, axFinds, axSecrets, axSlots, axClaims, axTrials, axChain, axBook, axNow⟩ : House) (⟨bxNo, bxFinds, bxSecrets, bxSlots, bxClaims, bxTrials, bxChain, bxBook, bxNow⟩ : House)) i) (fun (zr : Bool) => (XE.ret, frm [(4, .b zr)], [])) (fun (zr : Unit) => (XE.exit 0, frm [(2, .ptr 0 0 0), (3, .ptr 1 0 0)], [some (Ent.box [.i .i64 (⟨axNo, axFinds, axSecrets, axSlots, axClaims, axTrials, axChain, axBook, axNow⟩ : House).No, .imm 8 ((⟨axNo, axFinds, axSecrets, axSlots, axClaims, axTrials, axChain, axBook, axNow⟩ : House).Finds.map cFind), .imm 3 ((⟨axNo, axFinds, axSecrets, axSlots, axClaims, axTrials, axChain, axBook, axNow⟩ : House).Secrets.map cSecret), .imm 3 ((⟨axNo, axFinds, axSecrets, axSlots, axClaims, axTrials, axChain, axBook, axNow⟩ : House).Slots.map cSlot), .imm 5 ((⟨axNo, axFinds, axSecrets, axSlots, axClaims, axTrials, axChain, axBook, axNow⟩ : House).Claims.map cClaim), .imm 4 ((⟨axNo, axFinds, axSecrets, axSlots, axClaims, axTrials, axChain, axBook, axNow⟩ : House).Trials.map cTrial), .imm 5 ((⟨axNo, axFinds, axSecrets, axSlots, axClaims, axTrials, axChain, axBook, axNow⟩ : House).Chain.map cHand), .imm 4 ((⟨axNo, axFinds, axSecrets, axSlots, axClaims, axTrials, axChain, axBook, axNow⟩ : House).Book.map cEntry), .i .i64 (⟨axNo, axFinds, axSecrets, axSlots, axClaims, axTrials, axChain, axBook, axNow⟩ : House).Now]), some (Ent.box [.i .i64 (⟨bxNo, bxFinds, bxSecrets, bxSlots, bxClaims, bxTrials, bxChain, bxBook, bxNow⟩ : House).No, .imm 8 ((⟨bxNo, bxFinds, bxSecrets, bxSlots, bxClaims, bxTrials, bxChain, bxBook, bxNow⟩ : House).Finds.map cFind), .imm 3 ((⟨bxNo, bxFinds, bxSecrets, bxSlots, bxClaims, bxTrials, bxChain, bxBook, bxNow⟩ : House).Secrets.map cSecret), .imm 3 ((⟨bxNo, bxFinds, bxSecrets, bxSlots, bxClaims, bxTrials, bxChain, bxBook, bxNow⟩ : House).Slots.map cSlot), .imm 5 ((⟨bxNo, bxFinds, bxSecrets, bxSlots, bxClaims, bxTrials, bxChain, bxBook, bxNow⟩ : House).Claims.map cClaim), .imm 4 ((⟨bxNo, bxFinds, bxSecrets, bxSlots, bxClaims, bxTrials, bxChain, bxBook, bxNow⟩ : House).Trials.map cTrial), .imm 5 ((⟨bxNo, bxFinds, bxSecrets, bxSlots, bxClaims, bxTrials, bxChain, bxBook, bxNow⟩ : House).Chain.map cHand), .imm 4 ((⟨bxNo, bxFinds, bxSecrets, bxSlots, bxClaims, bxTrials, bxChain, bxBook, bxNow⟩ : House).Book.map cEntry), .i .i64 (⟨bxNo, bxFinds, bxSecrets, bxSlots, bxClaims, bxTrials, bxChain, bxBook, bxNow⟩ : House).Now])])) := by
  obtain ⟨rfl⟩ := H1
  obtain ⟨rfl⟩ := H2
  obtain ⟨rfl⟩ := H3
  obtain ⟨rfl⟩ := H4
  obtain ⟨rfl⟩ := H5
  obtain ⟨rfl⟩ := H6
  obtain ⟨rfl⟩ := H7
  obtain ⟨rfl⟩ := H8
  obtain ⟨rfl⟩ := H9
  obtain ⟨rfl⟩ := H10
  obtain ⟨rfl⟩ := H11
  obtain ⟨rfl⟩ := H12
  obtain ⟨rfl⟩ := H13
  obtain ⟨rfl⟩ := H14
  rw [LP_eq]
  simp -dsimp only [↓evA, evB, lpG_eq, Try.func73, Try.f73, a73, TP, Nat.reduceAdd, Nat.reduceMul, Nat.reduceBEq, Nat.reduceLeDiff, Nat.reduceLT]
  refine run_map (fun (zs : Int) => (frm [(2, .ptr 0 0 0), (3, .ptr 1 0 0), (5, .i .i64 zs)], [some (Ent.box [.i .i64 (⟨axNo, axFinds, axSecrets, axSlots, axClaims, axTrials, axChain, axBook, axNow⟩ : House).No, .imm 8 ((⟨axNo, axFinds, axSecrets, axSlots, axClaims, axTrials, axChain, axBook, axNow⟩ : House).Finds.map cFind), .imm 3 ((⟨axNo, axFinds, axSecrets, axSlots, axClaims, axTrials, axChain, axBook, axNow⟩ : House).Secrets.map cSecret), .imm 3 ((⟨axNo, axFinds, axSecrets, axSlots, axClaims, axTrials, axChain, axBook, axNow⟩ : House).Slots.map cSlot), .imm 5 ((⟨axNo, axFinds, axSecrets, axSlots, axClaims, axTrials, axChain, axBook, axNow⟩ : House).Claims.map cClaim), .imm 4 ((⟨axNo, axFinds, axSecrets, axSlots, axClaims, axTrials, axChain, axBook, axNow⟩ : House).Trials.map cTrial), .imm 5 ((⟨axNo, axFinds, axSecrets, axSlots, axClaims, axTrials, axChain, axBook, axNow⟩ : House).Chain.map cHand), .imm 4 ((⟨axNo, axFinds, axSecrets, axSlots, axClaims, axTrials, axChain, axBook, axNow⟩ : House).Book.map cEntry), .i .i64 (⟨axNo, axFinds, axSecrets, axSlots, axClaims, axTrials, axChain, axBook, axNow⟩ : House).Now]), some (Ent.box [.i .i64 (⟨bxNo, bxFinds, bxSecrets, bxSlots, bxClaims, bxTrials, bxChain, bxBook, bxNow⟩ : House).No, .imm 8 ((⟨bxNo, bxFinds, bxSecrets, bxSlots, bxClaims, bxTrials, bxChain, bxBook, bxNow⟩ : House).Finds.map cFind), .imm 3 ((⟨bxNo, bxFinds, bxSecrets, bxSlots, bxClaims, bxTrials, bxChain, bxBook, bxNow⟩ : House).Secrets.map cSecret), .imm 3 ((⟨bxNo, bxFinds, bxSecrets, bxSlots, bxClaims, bxTrials, bxChain, bxBook, bxNow⟩ : House).Slots.map cSlot), .imm 5 ((⟨bxNo, bxFinds, bxSecrets, bxSlots, bxClaims, bxTrials, bxChain, bxBook, bxNow⟩ : House).Claims.map cClaim), .imm 4 ((⟨bxNo, bxFinds, bxSecrets, bxSlots, bxClaims, bxTrials, bxChain, bxBook, bxNow⟩ : House).Trials.map cTrial), .imm 5 ((⟨bxNo, bxFinds, bxSecrets, bxSlots, bxClaims, bxTrials, bxChain, bxBook, bxNow⟩ : House).Chain.map cHand), .imm 4 ((⟨bxNo, bxFinds, bxSecrets, bxSlots, bxClaims, bxTrials, bxChain, bxBook, bxNow⟩ : House).Book.map cEntry), .i .i64 (⟨bxNo, bxFinds, bxSecrets, bxSlots, bxClaims, bxTrials, bxChain, bxBook, bxNow⟩ : House).Now])])) (evO (fun (zr : Bool) => (XE.ret, frm [(4, .b zr)], [])) (fun (zr : Unit) => (XE.exit 0, frm [(2, .ptr 0 0 0), (3, .ptr 1 0 0)], [some (Ent.box [.i .i64 (⟨axNo, axFinds, axSecrets, axSlots, axClaims, axTrials, axChain, axBook, axNow⟩ : House).No, .imm 8 ((⟨axNo, axFinds, axSecrets, axSlots, axClaims, axTrials, axChain, axBook, axNow⟩ : House).Finds.map cFind), .imm 3 ((⟨axNo, axFinds, axSecrets, axSlots, axClaims, axTrials, axChain, axBook, axNow⟩ : House).Secrets.map cSecret), .imm 3 ((⟨axNo, axFinds, axSecrets, axSlots, axClaims, axTrials, axChain, axBook, axNow⟩ : House).Slots.map cSlot), .imm 5 ((⟨axNo, axFinds, axSecrets, axSlots, axClaims, axTrials, axChain, axBook, axNow⟩ : House).Claims.map cClaim), .imm 4 ((⟨axNo, axFinds, axSecrets, axSlots, axClaims, axTrials, axChain, axBook, axNow⟩ : House).Trials.map cTrial), .imm 5 ((⟨axNo, axFinds, axSecrets, axSlots, axClaims, axTrials, axChain, axBook, axNow⟩ : House).Chain.map cHand), .imm 4 ((⟨axNo, axFinds, axSecrets, axSlots, axClaims, axTrials, axChain, axBook, axNow⟩ : House).Book.map cEntry), .i .i64 (⟨axNo, axFinds, axSecrets, axSlots, axClaims, axTrials, axChain, axBook, axNow⟩ : House).Now]), some (Ent.box [.i .i64 (⟨bxNo, bxFinds, bxSecrets, bxSlots, bxClaims, bxTrials, bxChain, bxBook, bxNow⟩ : House).No, .imm 8 ((⟨bxNo, bxFinds, bxSecrets, bxSlots, bxClaims, bxTrials, bxChain, bxBook, bxNow⟩ : House).Finds.map cFind), .imm 3 ((⟨bxNo, bxFinds, bxSecrets, bxSlots, bxClaims, bxTrials, bxChain, bxBook, bxNow⟩ : House).Secrets.map cSecret), .imm 3 ((⟨bxNo, bxFinds, bxSecrets, bxSlots, bxClaims, bxTrials, bxChain, bxBook, bxNow⟩ : House).Slots.map cSlot), .imm 5 ((⟨bxNo, bxFinds, bxSecrets, bxSlots, bxClaims, bxTrials, bxChain, bxBook, bxNow⟩ : House).Claims.map cClaim), .imm 4 ((⟨bxNo, bxFinds, bxSecrets, bxSlots, bxClaims, bxTrials, bxChain, bxBook, bxNow⟩ : House).Trials.map cTrial), .imm 5 ((⟨bxNo, bxFinds, bxSecrets, bxSlots, bxClaims, bxTrials, bxChain, bxBook, bxNow⟩ : House).Chain.map cHand), .imm 4 ((⟨bxNo, bxFinds, bxSecrets, bxSlots, bxClaims, bxTrials, bxChain, bxBook, bxNow⟩ : House).Book.map cEntry), .i .i64 (⟨bxNo, bxFinds, bxSecrets, bxSlots, bxClaims, bxTrials, bxChain, bxBook, bxNow⟩ : House).Now])]))) ?_ i
  intro i
  simp -dsimp +contextual only [↓evA, evB, evT, tys, encs, Nat.reduceAdd, Nat.reduceMul, Nat.reduceBEq, Nat.reduceLeDiff, Nat.reduceLT, TP, orc_p, orc_l]
  try simp only [spec_l33Chains_l4, evT, encs, c_js, r_map_some, e_need_t]
  all_goals rfl
theorem e_spec_l33Chains_l9 (n : Nat) (axNo : Int) {R1} {axFinds : List Find} {R2} {axSecrets : List Secret} {R3} {axSlots : List Slot} {R4} {axClaims : List Claim} {R5} {axTrials : List Trial} {R6} {axChain : List Hand} {R7} {axBook : List Entry} (axNow : Int) (bxNo : Int) {R8} {bxFinds : List Find} {R9} {bxSecrets : List Secret} {R10} {bxSlots : List Slot} {R11} {bxClaims : List Claim} {R12} {bxTrials : List Trial} {R13} {bxChain : List Hand} {R14} {bxBook : List Entry} (bxNow : Int) (i : Int) [H1 : EncL cFind R1 axFinds] [H2 : EncL cSecret R2 axSecrets] [H3 : EncL cSlot R3 axSlots] [H4 : EncL cClaim R4 axClaims] [H5 : EncL cTrial R5 axTrials] [H6 : EncL cHand R6 axChain] [H7 : EncL cEntry R7 axBook] [H8 : EncL cFind R8 bxFinds] [H9 : EncL cSecret R9 bxSecrets] [H10 : EncL cSlot R10 bxSlots] [H11 : EncL cClaim R11 bxClaims] [H12 : EncL cTrial R12 bxTrials] [H13 : EncL cHand R13 bxChain] [H14 : EncL cEntry R14 bxBook] : LP T (n + 1) 73 9 (frm [(2, .ptr 0 0 0), (3, .ptr 1 0 0), (6, .i .i64 i)]) [some (Ent.box [.i .i64 axNo, .imm 8 R1, .imm 3 R2, .imm 3 R3, .imm 5 R4, .imm 4 R5, .imm 5 R6, .imm 4 R7, .i .i64 axNow]), some (Ent.box [.i .i64 bxNo, .imm 8 R8, .imm 3 R9, .imm 3 R10, .imm 5 R11, .imm 4 R12, .imm 5 R13, .imm 4 R14, .i .i64 bxNow])] =
    lmap (run (spec_l33Chains_l9 (⟨axNo, axFinds, axSecrets, axSlots, axClaims, axTrials, axChain, axBook, axNow⟩ : House) (⟨bxNo, bxFinds, bxSecrets, bxSlots, bxClaims, bxTrials, bxChain, bxBook, bxNow⟩ : House)) i) (fun (zr : Bool) => (XE.ret, frm [(4, .b zr)], [])) (fun (zr : Unit) => (XE.exit 2, frm [], [])) := by
  obtain ⟨rfl⟩ := H1
  obtain ⟨rfl⟩ := H2
  obtain ⟨rfl⟩ := H3
  obtain ⟨rfl⟩ := H4
  obtain ⟨rfl⟩ := H5
  obtain ⟨rfl⟩ := H6
  obtain ⟨rfl⟩ := H7
  obtain ⟨rfl⟩ := H8
  obtain ⟨rfl⟩ := H9
  obtain ⟨rfl⟩ := H10
  obtain ⟨rfl⟩ := H11
  obtain ⟨rfl⟩ := H12
  obtain ⟨rfl⟩ := H13
  obtain ⟨rfl⟩ := H14
  rw [LP_eq]
  simp -dsimp only [↓evA, evB, lpG_eq, Try.func73, Try.f73, a73, TP, Nat.reduceAdd, Nat.reduceMul, Nat.reduceBEq, Nat.reduceLeDiff, Nat.reduceLT]
  refine run_map (fun (zs : Int) => (frm [(2, .ptr 0 0 0), (3, .ptr 1 0 0), (6, .i .i64 zs)], [some (Ent.box [.i .i64 (⟨axNo, axFinds, axSecrets, axSlots, axClaims, axTrials, axChain, axBook, axNow⟩ : House).No, .imm 8 ((⟨axNo, axFinds, axSecrets, axSlots, axClaims, axTrials, axChain, axBook, axNow⟩ : House).Finds.map cFind), .imm 3 ((⟨axNo, axFinds, axSecrets, axSlots, axClaims, axTrials, axChain, axBook, axNow⟩ : House).Secrets.map cSecret), .imm 3 ((⟨axNo, axFinds, axSecrets, axSlots, axClaims, axTrials, axChain, axBook, axNow⟩ : House).Slots.map cSlot), .imm 5 ((⟨axNo, axFinds, axSecrets, axSlots, axClaims, axTrials, axChain, axBook, axNow⟩ : House).Claims.map cClaim), .imm 4 ((⟨axNo, axFinds, axSecrets, axSlots, axClaims, axTrials, axChain, axBook, axNow⟩ : House).Trials.map cTrial), .imm 5 ((⟨axNo, axFinds, axSecrets, axSlots, axClaims, axTrials, axChain, axBook, axNow⟩ : House).Chain.map cHand), .imm 4 ((⟨axNo, axFinds, axSecrets, axSlots, axClaims, axTrials, axChain, axBook, axNow⟩ : House).Book.map cEntry), .i .i64 (⟨axNo, axFinds, axSecrets, axSlots, axClaims, axTrials, axChain, axBook, axNow⟩ : House).Now]), some (Ent.box [.i .i64 (⟨bxNo, bxFinds, bxSecrets, bxSlots, bxClaims, bxTrials, bxChain, bxBook, bxNow⟩ : House).No, .imm 8 ((⟨bxNo, bxFinds, bxSecrets, bxSlots, bxClaims, bxTrials, bxChain, bxBook, bxNow⟩ : House).Finds.map cFind), .imm 3 ((⟨bxNo, bxFinds, bxSecrets, bxSlots, bxClaims, bxTrials, bxChain, bxBook, bxNow⟩ : House).Secrets.map cSecret), .imm 3 ((⟨bxNo, bxFinds, bxSecrets, bxSlots, bxClaims, bxTrials, bxChain, bxBook, bxNow⟩ : House).Slots.map cSlot), .imm 5 ((⟨bxNo, bxFinds, bxSecrets, bxSlots, bxClaims, bxTrials, bxChain, bxBook, bxNow⟩ : House).Claims.map cClaim), .imm 4 ((⟨bxNo, bxFinds, bxSecrets, bxSlots, bxClaims, bxTrials, bxChain, bxBook, bxNow⟩ : House).Trials.map cTrial), .imm 5 ((⟨bxNo, bxFinds, bxSecrets, bxSlots, bxClaims, bxTrials, bxChain, bxBook, bxNow⟩ : House).Chain.map cHand), .imm 4 ((⟨bxNo, bxFinds, bxSecrets, bxSlots, bxClaims, bxTrials, bxChain, bxBook, bxNow⟩ : House).Book.map cEntry), .i .i64 (⟨bxNo, bxFinds, bxSecrets, bxSlots, bxClaims, bxTrials, bxChain, bxBook, bxNow⟩ : House).Now])])) (evO (fun (zr : Bool) => (XE.ret, frm [(4, .b zr)], [])) (fun (zr : Unit) => (XE.exit 2, frm [], []))) ?_ i
  intro i
  simp -dsimp +contextual only [↓evA, evB, evT, tys, encs, Nat.reduceAdd, Nat.reduceMul, Nat.reduceBEq, Nat.reduceLeDiff, Nat.reduceLT, TP, orc_p, orc_l]
  try simp only [spec_l33Chains_l9, evT, encs, c_js, r_map_some, e_need_t]
  all_goals rfl
theorem e_spec_l33Chains (n : Nat) (axNo : Int) {R1} {axFinds : List Find} {R2} {axSecrets : List Secret} {R3} {axSlots : List Slot} {R4} {axClaims : List Claim} {R5} {axTrials : List Trial} {R6} {axChain : List Hand} {R7} {axBook : List Entry} (axNow : Int) (bxNo : Int) {R8} {bxFinds : List Find} {R9} {bxSecrets : List Secret} {R10} {bxSlots : List Slot} {R11} {bxClaims : List Claim} {R12} {bxTrials : List Trial} {R13} {bxChain : List Hand} {R14} {bxBook : List Entry} (bxNow : Int) [H1 : EncL cFind R1 axFinds] [H2 : EncL cSecret R2 axSecrets] [H3 : EncL cSlot R3 axSlots] [H4 : EncL cClaim R4 axClaims] [H5 : EncL cTrial R5 axTrials] [H6 : EncL cHand R6 axChain] [H7 : EncL cEntry R7 axBook] [H8 : EncL cFind R8 bxFinds] [H9 : EncL cSecret R9 bxSecrets] [H10 : EncL cSlot R10 bxSlots] [H11 : EncL cClaim R11 bxClaims] [H12 : EncL cTrial R12 bxTrials] [H13 : EncL cHand R13 bxChain] [H14 : EncL cEntry R14 bxBook] : CP T (n + 2) 73 [.agg [.i .i64 axNo, .imm 8 R1, .imm 3 R2, .imm 3 R3, .imm 5 R4, .imm 4 R5, .imm 5 R6, .imm 4 R7, .i .i64 axNow], .agg [.i .i64 bxNo, .imm 8 R8, .imm 3 R9, .imm 3 R10, .imm 5 R11, .imm 4 R12, .imm 5 R13, .imm 4 R14, .i .i64 bxNow]] = (spec_l33Chains (⟨axNo, axFinds, axSecrets, axSlots, axClaims, axTrials, axChain, axBook, axNow⟩ : House) (⟨bxNo, bxFinds, bxSecrets, bxSlots, bxClaims, bxTrials, bxChain, bxBook, bxNow⟩ : House)).map fun r => .b r := by
  obtain ⟨rfl⟩ := H1
  obtain ⟨rfl⟩ := H2
  obtain ⟨rfl⟩ := H3
  obtain ⟨rfl⟩ := H4
  obtain ⟨rfl⟩ := H5
  obtain ⟨rfl⟩ := H6
  obtain ⟨rfl⟩ := H7
  obtain ⟨rfl⟩ := H8
  obtain ⟨rfl⟩ := H9
  obtain ⟨rfl⟩ := H10
  obtain ⟨rfl⟩ := H11
  obtain ⟨rfl⟩ := H12
  obtain ⟨rfl⟩ := H13
  obtain ⟨rfl⟩ := H14
  rw [CP_eq]
  simp -dsimp +contextual only [↓evA, evB, evT, tys, encs, Nat.reduceAdd, Nat.reduceMul, Nat.reduceBEq, Nat.reduceLeDiff, Nat.reduceLT, Try.func73, Try.f73, a73, TP, orc_p, orc_l, e_spec_l33Chains_l4, e_spec_l33Chains_l9]
  try simp only [spec_l33Chains, evT, encs, c_js, r_map_some, e_need_t]
  all_goals rfl
theorem e_spec_EqualHouses (n : Nat) (axNo : Int) {R1} {axFinds : List Find} {R2} {axSecrets : List Secret} {R3} {axSlots : List Slot} {R4} {axClaims : List Claim} {R5} {axTrials : List Trial} {R6} {axChain : List Hand} {R7} {axBook : List Entry} (axNow : Int) (bxNo : Int) {R8} {bxFinds : List Find} {R9} {bxSecrets : List Secret} {R10} {bxSlots : List Slot} {R11} {bxClaims : List Claim} {R12} {bxTrials : List Trial} {R13} {bxChain : List Hand} {R14} {bxBook : List Entry} (bxNow : Int) [H1 : EncL cFind R1 axFinds] [H2 : EncL cSecret R2 axSecrets] [H3 : EncL cSlot R3 axSlots] [H4 : EncL cClaim R4 axClaims] [H5 : EncL cTrial R5 axTrials] [H6 : EncL cHand R6 axChain] [H7 : EncL cEntry R7 axBook] [H8 : EncL cFind R8 bxFinds] [H9 : EncL cSecret R9 bxSecrets] [H10 : EncL cSlot R10 bxSlots] [H11 : EncL cClaim R11 bxClaims] [H12 : EncL cTrial R12 bxTrials] [H13 : EncL cHand R13 bxChain] [H14 : EncL cEntry R14 bxBook] : CP T (n + 5) 33 [.agg [.i .i64 axNo, .imm 8 R1, .imm 3 R2, .imm 3 R3, .imm 5 R4, .imm 4 R5, .imm 5 R6, .imm 4 R7, .i .i64 axNow], .agg [.i .i64 bxNo, .imm 8 R8, .imm 3 R9, .imm 3 R10, .imm 5 R11, .imm 4 R12, .imm 5 R13, .imm 4 R14, .i .i64 bxNow]] = (spec_EqualHouses (⟨axNo, axFinds, axSecrets, axSlots, axClaims, axTrials, axChain, axBook, axNow⟩ : House) (⟨bxNo, bxFinds, bxSecrets, bxSlots, bxClaims, bxTrials, bxChain, bxBook, bxNow⟩ : House)).map fun r => .b r := by
  obtain ⟨rfl⟩ := H1
  obtain ⟨rfl⟩ := H2
  obtain ⟨rfl⟩ := H3
  obtain ⟨rfl⟩ := H4
  obtain ⟨rfl⟩ := H5
  obtain ⟨rfl⟩ := H6
  obtain ⟨rfl⟩ := H7
  obtain ⟨rfl⟩ := H8
  obtain ⟨rfl⟩ := H9
  obtain ⟨rfl⟩ := H10
  obtain ⟨rfl⟩ := H11
  obtain ⟨rfl⟩ := H12
  obtain ⟨rfl⟩ := H13
  obtain ⟨rfl⟩ := H14
  rw [CP_eq]
  simp -dsimp +contextual only [↓evA, evB, evT, tys, encs, Nat.reduceAdd, Nat.reduceMul, Nat.reduceBEq, Nat.reduceLeDiff, Nat.reduceLT, Try.func33, Try.f33, a33, TP, orc_p, orc_l, e_spec_EqualSecrets, e_spec_l33Lists, e_spec_l33Chains]
  try simp only [spec_EqualHouses, evT, encs, c_js, r_map_some, e_need_t]
  all_goals rfl
theorem e_slices_Equal_Find_l4 (n : Nat) {R1} {s1 : List Find} {R2} {s2 : List Find} (t12 : Int) (t13 : Int) [H1 : EncL cFind R1 s1] [H2 : EncL cFind R2 s2] : LP T (n + 1) 74 4 (frm [(0, .imm 8 R1), (1, .imm 8 R2), (12, .i .i64 t12), (13, .i .i64 t13)]) [] =
    lmap (run (slices_Equal_Find_l4 s1 s2 t12) t13) (fun (zr : Bool) => (XE.ret, frm [(4, .b zr)], [])) (fun (zr : Unit) => (XE.exit 0, frm [], [])) := by
  obtain ⟨rfl⟩ := H1
  obtain ⟨rfl⟩ := H2
  rw [LP_eq]
  simp -dsimp only [↓evA, evB, lpG_eq, Try.func74, Try.f74, a74, TP, Nat.reduceAdd, Nat.reduceMul, Nat.reduceBEq, Nat.reduceLeDiff, Nat.reduceLT]
  refine run_map (fun (zs : Int) => (frm [(0, .imm 8 (s1.map cFind)), (1, .imm 8 (s2.map cFind)), (12, .i .i64 t12), (13, .i .i64 zs)], [])) (evO (fun (zr : Bool) => (XE.ret, frm [(4, .b zr)], [])) (fun (zr : Unit) => (XE.exit 0, frm [], []))) ?_ t13
  intro t13
  simp -dsimp +contextual only [↓evA, evB, evT, tys, encs, Nat.reduceAdd, Nat.reduceMul, Nat.reduceBEq, Nat.reduceLeDiff, Nat.reduceLT, TP, orc_p, orc_l]
  try simp only [slices_Equal_Find_l4, evT, encs, c_js, r_map_some, e_need_t]
  all_goals rfl
theorem e_slices_Equal_Find (n : Nat) {R1} {s1 : List Find} {R2} {s2 : List Find} [H1 : EncL cFind R1 s1] [H2 : EncL cFind R2 s2] : CP T (n + 2) 74 [.imm 8 R1, .imm 8 R2] = (slices_Equal_Find s1 s2).map fun r => .b r := by
  obtain ⟨rfl⟩ := H1
  obtain ⟨rfl⟩ := H2
  rw [CP_eq]
  simp -dsimp +contextual only [↓evA, evB, evT, tys, encs, Nat.reduceAdd, Nat.reduceMul, Nat.reduceBEq, Nat.reduceLeDiff, Nat.reduceLT, Try.func74, Try.f74, a74, TP, orc_p, orc_l, e_slices_Equal_Find_l4]
  try simp only [slices_Equal_Find, evT, encs, c_js, r_map_some, e_need_t]
  all_goals rfl
theorem e_slices_Equal_Mark_l4 (n : Nat) {R1} {s1 : List Mark} {R2} {s2 : List Mark} (t12 : Int) (t13 : Int) [H1 : EncL cMark R1 s1] [H2 : EncL cMark R2 s2] : LP T (n + 1) 111 4 (frm [(0, .imm 2 R1), (1, .imm 2 R2), (12, .i .i64 t12), (13, .i .i64 t13)]) [] =
    lmap (run (slices_Equal_Mark_l4 s1 s2 t12) t13) (fun (zr : Bool) => (XE.ret, frm [(4, .b zr)], [])) (fun (zr : Unit) => (XE.exit 0, frm [], [])) := by
  obtain ⟨rfl⟩ := H1
  obtain ⟨rfl⟩ := H2
  rw [LP_eq]
  simp -dsimp only [↓evA, evB, lpG_eq, Try.func111, Try.f111, a111, TP, Nat.reduceAdd, Nat.reduceMul, Nat.reduceBEq, Nat.reduceLeDiff, Nat.reduceLT]
  refine run_map (fun (zs : Int) => (frm [(0, .imm 2 (s1.map cMark)), (1, .imm 2 (s2.map cMark)), (12, .i .i64 t12), (13, .i .i64 zs)], [])) (evO (fun (zr : Bool) => (XE.ret, frm [(4, .b zr)], [])) (fun (zr : Unit) => (XE.exit 0, frm [], []))) ?_ t13
  intro t13
  simp -dsimp +contextual only [↓evA, evB, evT, tys, encs, Nat.reduceAdd, Nat.reduceMul, Nat.reduceBEq, Nat.reduceLeDiff, Nat.reduceLT, TP, orc_p, orc_l]
  try simp only [slices_Equal_Mark_l4, evT, encs, c_js, r_map_some, e_need_t]
  all_goals rfl
theorem e_slices_Equal_Mark (n : Nat) {R1} {s1 : List Mark} {R2} {s2 : List Mark} [H1 : EncL cMark R1 s1] [H2 : EncL cMark R2 s2] : CP T (n + 2) 111 [.imm 2 R1, .imm 2 R2] = (slices_Equal_Mark s1 s2).map fun r => .b r := by
  obtain ⟨rfl⟩ := H1
  obtain ⟨rfl⟩ := H2
  rw [CP_eq]
  simp -dsimp +contextual only [↓evA, evB, evT, tys, encs, Nat.reduceAdd, Nat.reduceMul, Nat.reduceBEq, Nat.reduceLeDiff, Nat.reduceLT, Try.func111, Try.f111, a111, TP, orc_p, orc_l, e_slices_Equal_Mark_l4]
  try simp only [slices_Equal_Mark, evT, encs, c_js, r_map_some, e_need_t]
  all_goals rfl
theorem e_impl_EqualSecrets_1 (n : Nat) (xxThing : Int) {R1} {xxMarks : List Mark} (xxSalt : Int) (yxThing : Int) {R2} {yxMarks : List Mark} (yxSalt : Int) [H1 : EncL cMark R1 xxMarks] [H2 : EncL cMark R2 yxMarks] : CP T (n + 3) 110 [.agg [.i .i64 xxThing, .imm 2 R1, .i .i64 xxSalt], .agg [.i .i64 yxThing, .imm 2 R2, .i .i64 yxSalt]] = (impl_EqualSecrets_1 (⟨xxThing, xxMarks, xxSalt⟩ : Secret) (⟨yxThing, yxMarks, yxSalt⟩ : Secret)).map fun r => .b r := by
  obtain ⟨rfl⟩ := H1
  obtain ⟨rfl⟩ := H2
  rw [CP_eq]
  simp -dsimp +contextual only [↓evA, evB, evT, tys, encs, Nat.reduceAdd, Nat.reduceMul, Nat.reduceBEq, Nat.reduceLeDiff, Nat.reduceLT, Try.func110, Try.f110, a110, TP, orc_p, orc_l, e_slices_Equal_Mark]
  try simp only [impl_EqualSecrets_1, evT, encs, c_js, r_map_some, e_need_t]
  all_goals rfl
theorem e_slices_EqualFunc_Secret_c110_l4 (n : Nat) {R1} {s2 : List Secret} {R2} {t15 : List Secret} (t16 : Int) (t17 : Int) [H1 : EncL cSecret R1 s2] [H2 : EncL cSecret R2 t15] : LP T (n + 4) 109 4 (frm [(1, .imm 3 R1), (2, .clo 110 []), (15, .imm 3 R2), (16, .i .i64 t16), (17, .i .i64 t17)]) [] =
    lmap (run (slices_EqualFunc_Secret_c110_l4 s2 t15 t16) t17) (fun (zr : Bool) => (XE.ret, frm [(6, .b zr)], [])) (fun (zr : Unit) => (XE.exit 0, frm [], [])) := by
  obtain ⟨rfl⟩ := H1
  obtain ⟨rfl⟩ := H2
  rw [LP_eq]
  simp -dsimp only [↓evA, evB, lpG_eq, Try.func109, Try.f109, a109, TP, Nat.reduceAdd, Nat.reduceMul, Nat.reduceBEq, Nat.reduceLeDiff, Nat.reduceLT]
  refine run_map (fun (zs : Int) => (frm [(1, .imm 3 (s2.map cSecret)), (2, .clo 110 []), (15, .imm 3 (t15.map cSecret)), (16, .i .i64 t16), (17, .i .i64 zs)], [])) (evO (fun (zr : Bool) => (XE.ret, frm [(6, .b zr)], [])) (fun (zr : Unit) => (XE.exit 0, frm [], []))) ?_ t17
  intro t17
  simp -dsimp +contextual only [↓evA, evB, evT, tys, encs, Nat.reduceAdd, Nat.reduceMul, Nat.reduceBEq, Nat.reduceLeDiff, Nat.reduceLT, TP, orc_p, orc_l, e_impl_EqualSecrets_1]
  try simp only [slices_EqualFunc_Secret_c110_l4, evT, encs, c_js, r_map_some, e_need_t]
  all_goals rfl
theorem e_slices_EqualFunc_Secret_c110 (n : Nat) {R1} {s1 : List Secret} {R2} {s2 : List Secret} [H1 : EncL cSecret R1 s1] [H2 : EncL cSecret R2 s2] : CP T (n + 5) 109 [.imm 3 R1, .imm 3 R2, .clo 110 []] = (slices_EqualFunc_Secret_c110 s1 s2).map fun r => .b r := by
  obtain ⟨rfl⟩ := H1
  obtain ⟨rfl⟩ := H2
  rw [CP_eq]
  simp -dsimp +contextual only [↓evA, evB, evT, tys, encs, Nat.reduceAdd, Nat.reduceMul, Nat.reduceBEq, Nat.reduceLeDiff, Nat.reduceLT, Try.func109, Try.f109, a109, TP, orc_p, orc_l, e_slices_EqualFunc_Secret_c110_l4]
  try simp only [slices_EqualFunc_Secret_c110, evT, encs, c_js, r_map_some, e_need_t]
  all_goals rfl
theorem e_impl_EqualSecrets (n : Nat) {R1} {a : List Secret} {R2} {b : List Secret} [H1 : EncL cSecret R1 a] [H2 : EncL cSecret R2 b] : CP T (n + 6) 75 [.imm 3 R1, .imm 3 R2] = (impl_EqualSecrets a b).map fun r => .b r := by
  obtain ⟨rfl⟩ := H1
  obtain ⟨rfl⟩ := H2
  rw [CP_eq]
  simp -dsimp +contextual only [↓evA, evB, evT, tys, encs, Nat.reduceAdd, Nat.reduceMul, Nat.reduceBEq, Nat.reduceLeDiff, Nat.reduceLT, Try.func75, Try.f75, a75, TP, orc_p, orc_l, e_slices_EqualFunc_Secret_c110]
  try simp only [impl_EqualSecrets, evT, encs, c_js, r_map_some, e_need_t]
  all_goals rfl
theorem e_slices_Equal_Slot_l4 (n : Nat) {R1} {s1 : List Slot} {R2} {s2 : List Slot} (t12 : Int) (t13 : Int) [H1 : EncL cSlot R1 s1] [H2 : EncL cSlot R2 s2] : LP T (n + 1) 76 4 (frm [(0, .imm 3 R1), (1, .imm 3 R2), (12, .i .i64 t12), (13, .i .i64 t13)]) [] =
    lmap (run (slices_Equal_Slot_l4 s1 s2 t12) t13) (fun (zr : Bool) => (XE.ret, frm [(4, .b zr)], [])) (fun (zr : Unit) => (XE.exit 0, frm [], [])) := by
  obtain ⟨rfl⟩ := H1
  obtain ⟨rfl⟩ := H2
  rw [LP_eq]
  simp -dsimp only [↓evA, evB, lpG_eq, Try.func76, Try.f76, a76, TP, Nat.reduceAdd, Nat.reduceMul, Nat.reduceBEq, Nat.reduceLeDiff, Nat.reduceLT]
  refine run_map (fun (zs : Int) => (frm [(0, .imm 3 (s1.map cSlot)), (1, .imm 3 (s2.map cSlot)), (12, .i .i64 t12), (13, .i .i64 zs)], [])) (evO (fun (zr : Bool) => (XE.ret, frm [(4, .b zr)], [])) (fun (zr : Unit) => (XE.exit 0, frm [], []))) ?_ t13
  intro t13
  simp -dsimp +contextual only [↓evA, evB, evT, tys, encs, Nat.reduceAdd, Nat.reduceMul, Nat.reduceBEq, Nat.reduceLeDiff, Nat.reduceLT, TP, orc_p, orc_l]
  try simp only [slices_Equal_Slot_l4, evT, encs, c_js, r_map_some, e_need_t]
  all_goals rfl
theorem e_slices_Equal_Slot (n : Nat) {R1} {s1 : List Slot} {R2} {s2 : List Slot} [H1 : EncL cSlot R1 s1] [H2 : EncL cSlot R2 s2] : CP T (n + 2) 76 [.imm 3 R1, .imm 3 R2] = (slices_Equal_Slot s1 s2).map fun r => .b r := by
  obtain ⟨rfl⟩ := H1
  obtain ⟨rfl⟩ := H2
  rw [CP_eq]
  simp -dsimp +contextual only [↓evA, evB, evT, tys, encs, Nat.reduceAdd, Nat.reduceMul, Nat.reduceBEq, Nat.reduceLeDiff, Nat.reduceLT, Try.func76, Try.f76, a76, TP, orc_p, orc_l, e_slices_Equal_Slot_l4]
  try simp only [slices_Equal_Slot, evT, encs, c_js, r_map_some, e_need_t]
  all_goals rfl
theorem e_slices_Equal_Claim_l4 (n : Nat) {R1} {s1 : List Claim} {R2} {s2 : List Claim} (t12 : Int) (t13 : Int) [H1 : EncL cClaim R1 s1] [H2 : EncL cClaim R2 s2] : LP T (n + 1) 77 4 (frm [(0, .imm 5 R1), (1, .imm 5 R2), (12, .i .i64 t12), (13, .i .i64 t13)]) [] =
    lmap (run (slices_Equal_Claim_l4 s1 s2 t12) t13) (fun (zr : Bool) => (XE.ret, frm [(4, .b zr)], [])) (fun (zr : Unit) => (XE.exit 0, frm [], [])) := by
  obtain ⟨rfl⟩ := H1
  obtain ⟨rfl⟩ := H2
  rw [LP_eq]
  simp -dsimp only [↓evA, evB, lpG_eq, Try.func77, Try.f77, a77, TP, Nat.reduceAdd, Nat.reduceMul, Nat.reduceBEq, Nat.reduceLeDiff, Nat.reduceLT]
  refine run_map (fun (zs : Int) => (frm [(0, .imm 5 (s1.map cClaim)), (1, .imm 5 (s2.map cClaim)), (12, .i .i64 t12), (13, .i .i64 zs)], [])) (evO (fun (zr : Bool) => (XE.ret, frm [(4, .b zr)], [])) (fun (zr : Unit) => (XE.exit 0, frm [], []))) ?_ t13
  intro t13
  simp -dsimp +contextual only [↓evA, evB, evT, tys, encs, Nat.reduceAdd, Nat.reduceMul, Nat.reduceBEq, Nat.reduceLeDiff, Nat.reduceLT, TP, orc_p, orc_l]
  try simp only [slices_Equal_Claim_l4, evT, encs, c_js, r_map_some, e_need_t]
  all_goals rfl
theorem e_slices_Equal_Claim (n : Nat) {R1} {s1 : List Claim} {R2} {s2 : List Claim} [H1 : EncL cClaim R1 s1] [H2 : EncL cClaim R2 s2] : CP T (n + 2) 77 [.imm 5 R1, .imm 5 R2] = (slices_Equal_Claim s1 s2).map fun r => .b r := by
  obtain ⟨rfl⟩ := H1
  obtain ⟨rfl⟩ := H2
  rw [CP_eq]
  simp -dsimp +contextual only [↓evA, evB, evT, tys, encs, Nat.reduceAdd, Nat.reduceMul, Nat.reduceBEq, Nat.reduceLeDiff, Nat.reduceLT, Try.func77, Try.f77, a77, TP, orc_p, orc_l, e_slices_Equal_Claim_l4]
  try simp only [slices_Equal_Claim, evT, encs, c_js, r_map_some, e_need_t]
  all_goals rfl
theorem e_slices_Equal_Trial_l4 (n : Nat) {R1} {s1 : List Trial} {R2} {s2 : List Trial} (t12 : Int) (t13 : Int) [H1 : EncL cTrial R1 s1] [H2 : EncL cTrial R2 s2] : LP T (n + 1) 78 4 (frm [(0, .imm 4 R1), (1, .imm 4 R2), (12, .i .i64 t12), (13, .i .i64 t13)]) [] =
    lmap (run (slices_Equal_Trial_l4 s1 s2 t12) t13) (fun (zr : Bool) => (XE.ret, frm [(4, .b zr)], [])) (fun (zr : Unit) => (XE.exit 0, frm [], [])) := by
  obtain ⟨rfl⟩ := H1
  obtain ⟨rfl⟩ := H2
  rw [LP_eq]
  simp -dsimp only [↓evA, evB, lpG_eq, Try.func78, Try.f78, a78, TP, Nat.reduceAdd, Nat.reduceMul, Nat.reduceBEq, Nat.reduceLeDiff, Nat.reduceLT]
  refine run_map (fun (zs : Int) => (frm [(0, .imm 4 (s1.map cTrial)), (1, .imm 4 (s2.map cTrial)), (12, .i .i64 t12), (13, .i .i64 zs)], [])) (evO (fun (zr : Bool) => (XE.ret, frm [(4, .b zr)], [])) (fun (zr : Unit) => (XE.exit 0, frm [], []))) ?_ t13
  intro t13
  simp -dsimp +contextual only [↓evA, evB, evT, tys, encs, Nat.reduceAdd, Nat.reduceMul, Nat.reduceBEq, Nat.reduceLeDiff, Nat.reduceLT, TP, orc_p, orc_l]
  try simp only [slices_Equal_Trial_l4, evT, encs, c_js, r_map_some, e_need_t]
  all_goals rfl
theorem e_slices_Equal_Trial (n : Nat) {R1} {s1 : List Trial} {R2} {s2 : List Trial} [H1 : EncL cTrial R1 s1] [H2 : EncL cTrial R2 s2] : CP T (n + 2) 78 [.imm 4 R1, .imm 4 R2] = (slices_Equal_Trial s1 s2).map fun r => .b r := by
  obtain ⟨rfl⟩ := H1
  obtain ⟨rfl⟩ := H2
  rw [CP_eq]
  simp -dsimp +contextual only [↓evA, evB, evT, tys, encs, Nat.reduceAdd, Nat.reduceMul, Nat.reduceBEq, Nat.reduceLeDiff, Nat.reduceLT, Try.func78, Try.f78, a78, TP, orc_p, orc_l, e_slices_Equal_Trial_l4]
  try simp only [slices_Equal_Trial, evT, encs, c_js, r_map_some, e_need_t]
  all_goals rfl
theorem e_slices_Equal_Hand_l4 (n : Nat) {R1} {s1 : List Hand} {R2} {s2 : List Hand} (t12 : Int) (t13 : Int) [H1 : EncL cHand R1 s1] [H2 : EncL cHand R2 s2] : LP T (n + 1) 79 4 (frm [(0, .imm 5 R1), (1, .imm 5 R2), (12, .i .i64 t12), (13, .i .i64 t13)]) [] =
    lmap (run (slices_Equal_Hand_l4 s1 s2 t12) t13) (fun (zr : Bool) => (XE.ret, frm [(4, .b zr)], [])) (fun (zr : Unit) => (XE.exit 0, frm [], [])) := by
  obtain ⟨rfl⟩ := H1
  obtain ⟨rfl⟩ := H2
  rw [LP_eq]
  simp -dsimp only [↓evA, evB, lpG_eq, Try.func79, Try.f79, a79, TP, Nat.reduceAdd, Nat.reduceMul, Nat.reduceBEq, Nat.reduceLeDiff, Nat.reduceLT]
  refine run_map (fun (zs : Int) => (frm [(0, .imm 5 (s1.map cHand)), (1, .imm 5 (s2.map cHand)), (12, .i .i64 t12), (13, .i .i64 zs)], [])) (evO (fun (zr : Bool) => (XE.ret, frm [(4, .b zr)], [])) (fun (zr : Unit) => (XE.exit 0, frm [], []))) ?_ t13
  intro t13
  simp -dsimp +contextual only [↓evA, evB, evT, tys, encs, Nat.reduceAdd, Nat.reduceMul, Nat.reduceBEq, Nat.reduceLeDiff, Nat.reduceLT, TP, orc_p, orc_l]
  try simp only [slices_Equal_Hand_l4, evT, encs, c_js, r_map_some, e_need_t]
  all_goals rfl
theorem e_slices_Equal_Hand (n : Nat) {R1} {s1 : List Hand} {R2} {s2 : List Hand} [H1 : EncL cHand R1 s1] [H2 : EncL cHand R2 s2] : CP T (n + 2) 79 [.imm 5 R1, .imm 5 R2] = (slices_Equal_Hand s1 s2).map fun r => .b r := by
  obtain ⟨rfl⟩ := H1
  obtain ⟨rfl⟩ := H2
  rw [CP_eq]
  simp -dsimp +contextual only [↓evA, evB, evT, tys, encs, Nat.reduceAdd, Nat.reduceMul, Nat.reduceBEq, Nat.reduceLeDiff, Nat.reduceLT, Try.func79, Try.f79, a79, TP, orc_p, orc_l, e_slices_Equal_Hand_l4]
  try simp only [slices_Equal_Hand, evT, encs, c_js, r_map_some, e_need_t]
  all_goals rfl
theorem e_slices_Equal_Entry_l4 (n : Nat) {R1} {s1 : List Entry} {R2} {s2 : List Entry} (t12 : Int) (t13 : Int) [H1 : EncL cEntry R1 s1] [H2 : EncL cEntry R2 s2] : LP T (n + 1) 80 4 (frm [(0, .imm 4 R1), (1, .imm 4 R2), (12, .i .i64 t12), (13, .i .i64 t13)]) [] =
    lmap (run (slices_Equal_Entry_l4 s1 s2 t12) t13) (fun (zr : Bool) => (XE.ret, frm [(4, .b zr)], [])) (fun (zr : Unit) => (XE.exit 0, frm [], [])) := by
  obtain ⟨rfl⟩ := H1
  obtain ⟨rfl⟩ := H2
  rw [LP_eq]
  simp -dsimp only [↓evA, evB, lpG_eq, Try.func80, Try.f80, a80, TP, Nat.reduceAdd, Nat.reduceMul, Nat.reduceBEq, Nat.reduceLeDiff, Nat.reduceLT]
  refine run_map (fun (zs : Int) => (frm [(0, .imm 4 (s1.map cEntry)), (1, .imm 4 (s2.map cEntry)), (12, .i .i64 t12), (13, .i .i64 zs)], [])) (evO (fun (zr : Bool) => (XE.ret, frm [(4, .b zr)], [])) (fun (zr : Unit) => (XE.exit 0, frm [], []))) ?_ t13
  intro t13
  simp -dsimp +contextual only [↓evA, evB, evT, tys, encs, Nat.reduceAdd, Nat.reduceMul, Nat.reduceBEq, Nat.reduceLeDiff, Nat.reduceLT, TP, orc_p, orc_l]
  try simp only [slices_Equal_Entry_l4, evT, encs, c_js, r_map_some, e_need_t]
  all_goals rfl
theorem e_slices_Equal_Entry (n : Nat) {R1} {s1 : List Entry} {R2} {s2 : List Entry} [H1 : EncL cEntry R1 s1] [H2 : EncL cEntry R2 s2] : CP T (n + 2) 80 [.imm 4 R1, .imm 4 R2] = (slices_Equal_Entry s1 s2).map fun r => .b r := by
  obtain ⟨rfl⟩ := H1
  obtain ⟨rfl⟩ := H2
  rw [CP_eq]
  simp -dsimp +contextual only [↓evA, evB, evT, tys, encs, Nat.reduceAdd, Nat.reduceMul, Nat.reduceBEq, Nat.reduceLeDiff, Nat.reduceLT, Try.func80, Try.f80, a80, TP, orc_p, orc_l, e_slices_Equal_Entry_l4]
  try simp only [slices_Equal_Entry, evT, encs, c_js, r_map_some, e_need_t]
  all_goals rfl
theorem e_impl_EqualHouses (n : Nat) (axNo : Int) {R1} {axFinds : List Find} {R2} {axSecrets : List Secret} {R3} {axSlots : List Slot} {R4} {axClaims : List Claim} {R5} {axTrials : List Trial} {R6} {axChain : List Hand} {R7} {axBook : List Entry} (axNow : Int) (a2xNo : Int) {R8} {a2xFinds : List Find} {R9} {a2xSecrets : List Secret} {R10} {a2xSlots : List Slot} {R11} {a2xClaims : List Claim} {R12} {a2xTrials : List Trial} {R13} {a2xChain : List Hand} {R14} {a2xBook : List Entry} (a2xNow : Int) [H1 : EncL cFind R1 axFinds] [H2 : EncL cSecret R2 axSecrets] [H3 : EncL cSlot R3 axSlots] [H4 : EncL cClaim R4 axClaims] [H5 : EncL cTrial R5 axTrials] [H6 : EncL cHand R6 axChain] [H7 : EncL cEntry R7 axBook] [H8 : EncL cFind R8 a2xFinds] [H9 : EncL cSecret R9 a2xSecrets] [H10 : EncL cSlot R10 a2xSlots] [H11 : EncL cClaim R11 a2xClaims] [H12 : EncL cTrial R12 a2xTrials] [H13 : EncL cHand R13 a2xChain] [H14 : EncL cEntry R14 a2xBook] : CP T (n + 7) 34 [.agg [.i .i64 axNo, .imm 8 R1, .imm 3 R2, .imm 3 R3, .imm 5 R4, .imm 4 R5, .imm 5 R6, .imm 4 R7, .i .i64 axNow], .agg [.i .i64 a2xNo, .imm 8 R8, .imm 3 R9, .imm 3 R10, .imm 5 R11, .imm 4 R12, .imm 5 R13, .imm 4 R14, .i .i64 a2xNow]] = (impl_EqualHouses (⟨axNo, axFinds, axSecrets, axSlots, axClaims, axTrials, axChain, axBook, axNow⟩ : House) (⟨a2xNo, a2xFinds, a2xSecrets, a2xSlots, a2xClaims, a2xTrials, a2xChain, a2xBook, a2xNow⟩ : House)).map fun r => .b r := by
  obtain ⟨rfl⟩ := H1
  obtain ⟨rfl⟩ := H2
  obtain ⟨rfl⟩ := H3
  obtain ⟨rfl⟩ := H4
  obtain ⟨rfl⟩ := H5
  obtain ⟨rfl⟩ := H6
  obtain ⟨rfl⟩ := H7
  obtain ⟨rfl⟩ := H8
  obtain ⟨rfl⟩ := H9
  obtain ⟨rfl⟩ := H10
  obtain ⟨rfl⟩ := H11
  obtain ⟨rfl⟩ := H12
  obtain ⟨rfl⟩ := H13
  obtain ⟨rfl⟩ := H14
  rw [CP_eq]
  simp -dsimp +contextual only [↓evA, evB, evT, tys, encs, Nat.reduceAdd, Nat.reduceMul, Nat.reduceBEq, Nat.reduceLeDiff, Nat.reduceLT, Try.func34, Try.f34, a34, TP, orc_p, orc_l, e_slices_Equal_Find, e_impl_EqualSecrets, e_slices_Equal_Slot, e_slices_Equal_Claim, e_slices_Equal_Trial, e_slices_Equal_Hand, e_slices_Equal_Entry]
  try simp only [impl_EqualHouses, evT, encs, c_js, r_map_some, e_need_t]
  all_goals rfl
theorem e_laws_FnExactEqualHouses (n : Nat) (aAxNo : Int) {R1} {aAxFinds : List Find} {R2} {aAxSecrets : List Secret} {R3} {aAxSlots : List Slot} {R4} {aAxClaims : List Claim} {R5} {aAxTrials : List Trial} {R6} {aAxChain : List Hand} {R7} {aAxBook : List Entry} (aAxNow : Int) (aBxNo : Int) {R8} {aBxFinds : List Find} {R9} {aBxSecrets : List Secret} {R10} {aBxSlots : List Slot} {R11} {aBxClaims : List Claim} {R12} {aBxTrials : List Trial} {R13} {aBxChain : List Hand} {R14} {aBxBook : List Entry} (aBxNow : Int) [H1 : EncL cFind R1 aAxFinds] [H2 : EncL cSecret R2 aAxSecrets] [H3 : EncL cSlot R3 aAxSlots] [H4 : EncL cClaim R4 aAxClaims] [H5 : EncL cTrial R5 aAxTrials] [H6 : EncL cHand R6 aAxChain] [H7 : EncL cEntry R7 aAxBook] [H8 : EncL cFind R8 aBxFinds] [H9 : EncL cSecret R9 aBxSecrets] [H10 : EncL cSlot R10 aBxSlots] [H11 : EncL cClaim R11 aBxClaims] [H12 : EncL cTrial R12 aBxTrials] [H13 : EncL cHand R13 aBxChain] [H14 : EncL cEntry R14 aBxBook] : CP T (n + 8) 7 [.agg [.i .i64 aAxNo, .imm 8 R1, .imm 3 R2, .imm 3 R3, .imm 5 R4, .imm 4 R5, .imm 5 R6, .imm 4 R7, .i .i64 aAxNow], .agg [.i .i64 aBxNo, .imm 8 R8, .imm 3 R9, .imm 3 R10, .imm 5 R11, .imm 4 R12, .imm 5 R13, .imm 4 R14, .i .i64 aBxNow]] = (laws_FnExactEqualHouses (⟨aAxNo, aAxFinds, aAxSecrets, aAxSlots, aAxClaims, aAxTrials, aAxChain, aAxBook, aAxNow⟩ : House) (⟨aBxNo, aBxFinds, aBxSecrets, aBxSlots, aBxClaims, aBxTrials, aBxChain, aBxBook, aBxNow⟩ : House)).map fun r => .b r := by
  obtain ⟨rfl⟩ := H1
  obtain ⟨rfl⟩ := H2
  obtain ⟨rfl⟩ := H3
  obtain ⟨rfl⟩ := H4
  obtain ⟨rfl⟩ := H5
  obtain ⟨rfl⟩ := H6
  obtain ⟨rfl⟩ := H7
  obtain ⟨rfl⟩ := H8
  obtain ⟨rfl⟩ := H9
  obtain ⟨rfl⟩ := H10
  obtain ⟨rfl⟩ := H11
  obtain ⟨rfl⟩ := H12
  obtain ⟨rfl⟩ := H13
  obtain ⟨rfl⟩ := H14
  rw [CP_eq]
  simp -dsimp +contextual only [↓evA, evB, evT, tys, encs, Nat.reduceAdd, Nat.reduceMul, Nat.reduceBEq, Nat.reduceLeDiff, Nat.reduceLT, Try.func7, Try.f7, a7, TP, orc_p, orc_l, e_laws_szHouse, e_laws_toHouse, e_spec_EqualHouses, e_impl_EqualHouses, e_laws_eqHouse]
  try simp only [laws_FnExactEqualHouses, evT, encs, c_js, r_map_some, e_need_t]
  all_goals rfl
theorem e_spec_l1In (n : Nat) (x : Int) (least : Int) (most : Int) : CP T (n + 1) 125 [.i .i64 x, .i .i64 least, .i .i64 most] = (spec_l1In x least most).map fun r => .b r := by
  rw [CP_eq]
  simp -dsimp +contextual only [↓evA, evB, evT, tys, encs, Nat.reduceAdd, Nat.reduceMul, Nat.reduceBEq, Nat.reduceLeDiff, Nat.reduceLT, Try.func125, Try.f125, a125, TP, orc_p, orc_l]
  try simp only [spec_l1In, evT, encs, c_js, r_map_some, e_need_t]
  all_goals rfl
theorem e_spec_IsThing (n : Nat) (xxId : Int) (xxKind : Int) (xxColour : Int) (xxSize : Int) (xxWorth : Int) : CP T (n + 2) 124 [.agg [.i .i64 xxId, .i .i64 xxKind, .i .i64 xxColour, .i .i64 xxSize, .i .i64 xxWorth]] = (spec_IsThing (⟨xxId, xxKind, xxColour, xxSize, xxWorth⟩ : Thing)).map fun r => .b r := by
  rw [CP_eq]
  simp -dsimp +contextual only [↓evA, evB, evT, tys, encs, Nat.reduceAdd, Nat.reduceMul, Nat.reduceBEq, Nat.reduceLeDiff, Nat.reduceLT, Try.func124, Try.f124, a124, TP, orc_p, orc_l, e_spec_l1In]
  try simp only [spec_IsThing, evT, encs, c_js, r_map_some, e_need_t]
  all_goals rfl
theorem e_spec_IsFind (n : Nat) (fxThingxId : Int) (fxThingxKind : Int) (fxThingxColour : Int) (fxThingxSize : Int) (fxThingxWorth : Int) (fxPlace : Int) (fxAt : Int) (fxFinder : Int) : CP T (n + 3) 112 [.agg [.i .i64 fxThingxId, .i .i64 fxThingxKind, .i .i64 fxThingxColour, .i .i64 fxThingxSize, .i .i64 fxThingxWorth, .i .i64 fxPlace, .i .i64 fxAt, .i .i64 fxFinder]] = (spec_IsFind (⟨⟨fxThingxId, fxThingxKind, fxThingxColour, fxThingxSize, fxThingxWorth⟩, fxPlace, fxAt, fxFinder⟩ : Find)).map fun r => .b r := by
  rw [CP_eq]
  simp -dsimp +contextual only [↓evA, evB, evT, tys, encs, Nat.reduceAdd, Nat.reduceMul, Nat.reduceBEq, Nat.reduceLeDiff, Nat.reduceLT, Try.func112, Try.f112, a112, TP, orc_p, orc_l, e_spec_IsThing, e_spec_l1In]
  try simp only [spec_IsFind, evT, encs, c_js, r_map_some, e_need_t]
  all_goals rfl
theorem e_spec_KeepDays (n : Nat) (kind : Int) : CP T (n + 2) 126 [.i .i64 kind] = (spec_KeepDays kind).map fun r => .i .i64 r := by
  rw [CP_eq]
  simp -dsimp +contextual only [↓evA, evB, evT, tys, encs, Nat.reduceAdd, Nat.reduceMul, Nat.reduceBEq, Nat.reduceLeDiff, Nat.reduceLT, Try.func126, Try.f126, a126, TP, orc_p, orc_l, e_spec_l1In]
  try simp only [spec_KeepDays, evT, encs, c_js, r_map_some, e_need_t]
  all_goals rfl
theorem e_spec_DueHour (n : Nat) (fxThingxId : Int) (fxThingxKind : Int) (fxThingxColour : Int) (fxThingxSize : Int) (fxThingxWorth : Int) (fxPlace : Int) (fxAt : Int) (fxFinder : Int) : CP T (n + 4) 113 [.agg [.i .i64 fxThingxId, .i .i64 fxThingxKind, .i .i64 fxThingxColour, .i .i64 fxThingxSize, .i .i64 fxThingxWorth, .i .i64 fxPlace, .i .i64 fxAt, .i .i64 fxFinder]] = (spec_DueHour (⟨⟨fxThingxId, fxThingxKind, fxThingxColour, fxThingxSize, fxThingxWorth⟩, fxPlace, fxAt, fxFinder⟩ : Find)).map fun r => .i .i64 r := by
  rw [CP_eq]
  simp -dsimp +contextual only [↓evA, evB, evT, tys, encs, Nat.reduceAdd, Nat.reduceMul, Nat.reduceBEq, Nat.reduceLeDiff, Nat.reduceLT, Try.func113, Try.f113, a113, TP, orc_p, orc_l, e_spec_IsFind, e_spec_KeepDays]
  try simp only [spec_DueHour, evT, encs, c_js, r_map_some, e_need_t]
  all_goals rfl
theorem e_spec_IsDue (n : Nat) (fxThingxId : Int) (fxThingxKind : Int) (fxThingxColour : Int) (fxThingxSize : Int) (fxThingxWorth : Int) (fxPlace : Int) (fxAt : Int) (fxFinder : Int) (now : Int) : CP T (n + 5) 81 [.agg [.i .i64 fxThingxId, .i .i64 fxThingxKind, .i .i64 fxThingxColour, .i .i64 fxThingxSize, .i .i64 fxThingxWorth, .i .i64 fxPlace, .i .i64 fxAt, .i .i64 fxFinder], .i .i64 now] = (spec_IsDue (⟨⟨fxThingxId, fxThingxKind, fxThingxColour, fxThingxSize, fxThingxWorth⟩, fxPlace, fxAt, fxFinder⟩ : Find) now).map fun r => .b r := by
  rw [CP_eq]
  simp -dsimp +contextual only [↓evA, evB, evT, tys, encs, Nat.reduceAdd, Nat.reduceMul, Nat.reduceBEq, Nat.reduceLeDiff, Nat.reduceLT, Try.func81, Try.f81, a81, TP, orc_p, orc_l, e_spec_IsFind, e_spec_DueHour]
  try simp only [spec_IsDue, evT, encs, c_js, r_map_some, e_need_t]
  all_goals rfl
theorem e_spec_IsNeverEarly_l2 (n : Nat) (vhxNo : Int) {R1} {vhxFinds : List Find} {R2} {vhxSecrets : List Secret} {R3} {vhxSlots : List Slot} {R4} {vhxClaims : List Claim} {R5} {vhxTrials : List Trial} {R6} {vhxChain : List Hand} {R7} {vhxBook : List Entry} (vhxNow : Int) (i : Int) [H1 : EncL cFind R1 vhxFinds] [H2 : EncL cSecret R2 vhxSecrets] [H3 : EncL cSlot R3 vhxSlots] [H4 : EncL cClaim R4 vhxClaims] [H5 : EncL cTrial R5 vhxTrials] [H6 : EncL cHand R6 vhxChain] [H7 : EncL cEntry R7 vhxBook] : LP T (n + 6) 35 2 (frm [(1, .ptr 0 0 0), (3, .i .i64 i)]) [some (Ent.box [.i .i64 vhxNo, .imm 8 R1, .imm 3 R2, .imm 3 R3, .imm 5 R4, .imm 4 R5, .imm 5 R6, .imm 4 R7, .i .i64 vhxNow])] =
    lmap (run (spec_IsNeverEarly_l2 (⟨vhxNo, vhxFinds, vhxSecrets, vhxSlots, vhxClaims, vhxTrials, vhxChain, vhxBook, vhxNow⟩ : House)) i) (fun (zr : Bool) => (XE.ret, frm [(2, .b zr)], [])) (fun (zr : Unit) => (XE.exit 0, frm [], [])) := by
  obtain ⟨rfl⟩ := H1
  obtain ⟨rfl⟩ := H2
  obtain ⟨rfl⟩ := H3
  obtain ⟨rfl⟩ := H4
  obtain ⟨rfl⟩ := H5
  obtain ⟨rfl⟩ := H6
  obtain ⟨rfl⟩ := H7
  rw [LP_eq]
  simp -dsimp only [↓evA, evB, lpG_eq, Try.func35, Try.f35, a35, TP, Nat.reduceAdd, Nat.reduceMul, Nat.reduceBEq, Nat.reduceLeDiff, Nat.reduceLT]
  refine run_map (fun (zs : Int) => (frm [(1, .ptr 0 0 0), (3, .i .i64 zs)], [some (Ent.box [.i .i64 (⟨vhxNo, vhxFinds, vhxSecrets, vhxSlots, vhxClaims, vhxTrials, vhxChain, vhxBook, vhxNow⟩ : House).No, .imm 8 ((⟨vhxNo, vhxFinds, vhxSecrets, vhxSlots, vhxClaims, vhxTrials, vhxChain, vhxBook, vhxNow⟩ : House).Finds.map cFind), .imm 3 ((⟨vhxNo, vhxFinds, vhxSecrets, vhxSlots, vhxClaims, vhxTrials, vhxChain, vhxBook, vhxNow⟩ : House).Secrets.map cSecret), .imm 3 ((⟨vhxNo, vhxFinds, vhxSecrets, vhxSlots, vhxClaims, vhxTrials, vhxChain, vhxBook, vhxNow⟩ : House).Slots.map cSlot), .imm 5 ((⟨vhxNo, vhxFinds, vhxSecrets, vhxSlots, vhxClaims, vhxTrials, vhxChain, vhxBook, vhxNow⟩ : House).Claims.map cClaim), .imm 4 ((⟨vhxNo, vhxFinds, vhxSecrets, vhxSlots, vhxClaims, vhxTrials, vhxChain, vhxBook, vhxNow⟩ : House).Trials.map cTrial), .imm 5 ((⟨vhxNo, vhxFinds, vhxSecrets, vhxSlots, vhxClaims, vhxTrials, vhxChain, vhxBook, vhxNow⟩ : House).Chain.map cHand), .imm 4 ((⟨vhxNo, vhxFinds, vhxSecrets, vhxSlots, vhxClaims, vhxTrials, vhxChain, vhxBook, vhxNow⟩ : House).Book.map cEntry), .i .i64 (⟨vhxNo, vhxFinds, vhxSecrets, vhxSlots, vhxClaims, vhxTrials, vhxChain, vhxBook, vhxNow⟩ : House).Now])])) (evO (fun (zr : Bool) => (XE.ret, frm [(2, .b zr)], [])) (fun (zr : Unit) => (XE.exit 0, frm [], []))) ?_ i
  intro i
  simp -dsimp +contextual only [↓evA, evB, evT, tys, encs, Nat.reduceAdd, Nat.reduceMul, Nat.reduceBEq, Nat.reduceLeDiff, Nat.reduceLT, TP, orc_p, orc_l, e_spec_FindThing, e_spec_l36Claimed, e_spec_IsDue]
  try simp only [spec_IsNeverEarly_l2, evT, encs, c_js, r_map_some, e_need_t]
  all_goals rfl
theorem e_spec_IsNeverEarly (n : Nat) (vhxNo : Int) {R1} {vhxFinds : List Find} {R2} {vhxSecrets : List Secret} {R3} {vhxSlots : List Slot} {R4} {vhxClaims : List Claim} {R5} {vhxTrials : List Trial} {R6} {vhxChain : List Hand} {R7} {vhxBook : List Entry} (vhxNow : Int) [H1 : EncL cFind R1 vhxFinds] [H2 : EncL cSecret R2 vhxSecrets] [H3 : EncL cSlot R3 vhxSlots] [H4 : EncL cClaim R4 vhxClaims] [H5 : EncL cTrial R5 vhxTrials] [H6 : EncL cHand R6 vhxChain] [H7 : EncL cEntry R7 vhxBook] : CP T (n + 7) 35 [.agg [.i .i64 vhxNo, .imm 8 R1, .imm 3 R2, .imm 3 R3, .imm 5 R4, .imm 4 R5, .imm 5 R6, .imm 4 R7, .i .i64 vhxNow]] = (spec_IsNeverEarly (⟨vhxNo, vhxFinds, vhxSecrets, vhxSlots, vhxClaims, vhxTrials, vhxChain, vhxBook, vhxNow⟩ : House)).map fun r => .b r := by
  obtain ⟨rfl⟩ := H1
  obtain ⟨rfl⟩ := H2
  obtain ⟨rfl⟩ := H3
  obtain ⟨rfl⟩ := H4
  obtain ⟨rfl⟩ := H5
  obtain ⟨rfl⟩ := H6
  obtain ⟨rfl⟩ := H7
  rw [CP_eq]
  simp -dsimp +contextual only [↓evA, evB, evT, tys, encs, Nat.reduceAdd, Nat.reduceMul, Nat.reduceBEq, Nat.reduceLeDiff, Nat.reduceLT, Try.func35, Try.f35, a35, TP, orc_p, orc_l, e_spec_IsNeverEarly_l2]
  try simp only [spec_IsNeverEarly, evT, encs, c_js, r_map_some, e_need_t]
  all_goals rfl
theorem e_impl_InRange (n : Nat) (vn : Int) (low : Int) (high : Int) : CP T (n + 1) 128 [.i .i64 vn, .i .i64 low, .i .i64 high] = (impl_InRange vn low high).map fun r => .b r := by
  rw [CP_eq]
  simp -dsimp +contextual only [↓evA, evB, evT, tys, encs, Nat.reduceAdd, Nat.reduceMul, Nat.reduceBEq, Nat.reduceLeDiff, Nat.reduceLT, Try.func128, Try.f128, a128, TP, orc_p, orc_l]
  try simp only [impl_InRange, evT, encs, c_js, r_map_some, e_need_t]
  all_goals rfl
theorem e_impl_IsThing (n : Nat) (xxId : Int) (xxKind : Int) (xxColour : Int) (xxSize : Int) (xxWorth : Int) : CP T (n + 2) 127 [.agg [.i .i64 xxId, .i .i64 xxKind, .i .i64 xxColour, .i .i64 xxSize, .i .i64 xxWorth]] = (impl_IsThing (⟨xxId, xxKind, xxColour, xxSize, xxWorth⟩ : Thing)).map fun r => .b r := by
  rw [CP_eq]
  simp -dsimp +contextual only [↓evA, evB, evT, tys, encs, Nat.reduceAdd, Nat.reduceMul, Nat.reduceBEq, Nat.reduceLeDiff, Nat.reduceLT, Try.func127, Try.f127, a127, TP, orc_p, orc_l, e_impl_InRange]
  try simp only [impl_IsThing, evT, encs, c_js, r_map_some, e_need_t]
  all_goals rfl
theorem e_impl_IsFind (n : Nat) (fxThingxId : Int) (fxThingxKind : Int) (fxThingxColour : Int) (fxThingxSize : Int) (fxThingxWorth : Int) (fxPlace : Int) (fxAt : Int) (fxFinder : Int) : CP T (n + 3) 114 [.agg [.i .i64 fxThingxId, .i .i64 fxThingxKind, .i .i64 fxThingxColour, .i .i64 fxThingxSize, .i .i64 fxThingxWorth, .i .i64 fxPlace, .i .i64 fxAt, .i .i64 fxFinder]] = (impl_IsFind (⟨⟨fxThingxId, fxThingxKind, fxThingxColour, fxThingxSize, fxThingxWorth⟩, fxPlace, fxAt, fxFinder⟩ : Find)).map fun r => .b r := by
  rw [CP_eq]
  simp -dsimp +contextual only [↓evA, evB, evT, tys, encs, Nat.reduceAdd, Nat.reduceMul, Nat.reduceBEq, Nat.reduceLeDiff, Nat.reduceLT, Try.func114, Try.f114, a114, TP, orc_p, orc_l, e_impl_IsThing, e_impl_InRange]
  try simp only [impl_IsFind, evT, encs, c_js, r_map_some, e_need_t]
  all_goals rfl
theorem e_impl_KeepDays (n : Nat) (kind : Int) : CP T (n + 1) 129 [.i .i64 kind] = (impl_KeepDays kind).map fun r => .i .i64 r := by
  rw [CP_eq]
  simp -dsimp +contextual only [↓evA, evB, evT, tys, encs, Nat.reduceAdd, Nat.reduceMul, Nat.reduceBEq, Nat.reduceLeDiff, Nat.reduceLT, Try.func129, Try.f129, a129, TP, orc_p, orc_l]
  try simp only [impl_KeepDays, evT, encs, c_js, r_map_some, e_need_t]
  all_goals rfl
theorem e_impl_DueHour (n : Nat) (fxThingxId : Int) (fxThingxKind : Int) (fxThingxColour : Int) (fxThingxSize : Int) (fxThingxWorth : Int) (fxPlace : Int) (fxAt : Int) (fxFinder : Int) : CP T (n + 4) 115 [.agg [.i .i64 fxThingxId, .i .i64 fxThingxKind, .i .i64 fxThingxColour, .i .i64 fxThingxSize, .i .i64 fxThingxWorth, .i .i64 fxPlace, .i .i64 fxAt, .i .i64 fxFinder]] = (impl_DueHour (⟨⟨fxThingxId, fxThingxKind, fxThingxColour, fxThingxSize, fxThingxWorth⟩, fxPlace, fxAt, fxFinder⟩ : Find)).map fun r => .i .i64 r := by
  rw [CP_eq]
  simp -dsimp +contextual only [↓evA, evB, evT, tys, encs, Nat.reduceAdd, Nat.reduceMul, Nat.reduceBEq, Nat.reduceLeDiff, Nat.reduceLT, Try.func115, Try.f115, a115, TP, orc_p, orc_l, e_impl_IsFind, e_impl_KeepDays]
  try simp only [impl_DueHour, evT, encs, c_js, r_map_some, e_need_t]
  all_goals rfl
theorem e_impl_IsDue (n : Nat) (fxThingxId : Int) (fxThingxKind : Int) (fxThingxColour : Int) (fxThingxSize : Int) (fxThingxWorth : Int) (fxPlace : Int) (fxAt : Int) (fxFinder : Int) (now : Int) : CP T (n + 5) 82 [.agg [.i .i64 fxThingxId, .i .i64 fxThingxKind, .i .i64 fxThingxColour, .i .i64 fxThingxSize, .i .i64 fxThingxWorth, .i .i64 fxPlace, .i .i64 fxAt, .i .i64 fxFinder], .i .i64 now] = (impl_IsDue (⟨⟨fxThingxId, fxThingxKind, fxThingxColour, fxThingxSize, fxThingxWorth⟩, fxPlace, fxAt, fxFinder⟩ : Find) now).map fun r => .b r := by
  rw [CP_eq]
  simp -dsimp +contextual only [↓evA, evB, evT, tys, encs, Nat.reduceAdd, Nat.reduceMul, Nat.reduceBEq, Nat.reduceLeDiff, Nat.reduceLT, Try.func82, Try.f82, a82, TP, orc_p, orc_l, e_impl_IsFind, e_impl_DueHour]
  try simp only [impl_IsDue, evT, encs, c_js, r_map_some, e_need_t]
  all_goals rfl
theorem e_impl_IsNeverEarly_l2 (n : Nat) (vhxNo : Int) {R1} {vhxFinds : List Find} {R2} {vhxSecrets : List Secret} {R3} {vhxSlots : List Slot} {R4} {vhxClaims : List Claim} {R5} {vhxTrials : List Trial} {R6} {vhxChain : List Hand} {R7} {vhxBook : List Entry} (vhxNow : Int) {R8} {t7 : List Hand} (t8 : Int) (t9 : Int) [H1 : EncL cFind R1 vhxFinds] [H2 : EncL cSecret R2 vhxSecrets] [H3 : EncL cSlot R3 vhxSlots] [H4 : EncL cClaim R4 vhxClaims] [H5 : EncL cTrial R5 vhxTrials] [H6 : EncL cHand R6 vhxChain] [H7 : EncL cEntry R7 vhxBook] [H8 : EncL cHand R8 t7] : LP T (n + 6) 36 2 (frm [(1, .ptr 0 0 0), (7, .imm 5 R8), (8, .i .i64 t8), (9, .i .i64 t9)]) [some (Ent.box [.i .i64 vhxNo, .imm 8 R1, .imm 3 R2, .imm 3 R3, .imm 5 R4, .imm 4 R5, .imm 5 R6, .imm 4 R7, .i .i64 vhxNow])] =
    lmap (run (impl_IsNeverEarly_l2 (⟨vhxNo, vhxFinds, vhxSecrets, vhxSlots, vhxClaims, vhxTrials, vhxChain, vhxBook, vhxNow⟩ : House) t7 t8) t9) (fun (zr : Bool) => (XE.ret, frm [(2, .b zr)], [])) (fun (zr : Unit) => (XE.exit 0, frm [], [])) := by
  obtain ⟨rfl⟩ := H1
  obtain ⟨rfl⟩ := H2
  obtain ⟨rfl⟩ := H3
  obtain ⟨rfl⟩ := H4
  obtain ⟨rfl⟩ := H5
  obtain ⟨rfl⟩ := H6
  obtain ⟨rfl⟩ := H7
  obtain ⟨rfl⟩ := H8
  rw [LP_eq]
  simp -dsimp only [↓evA, evB, lpG_eq, Try.func36, Try.f36, a36, TP, Nat.reduceAdd, Nat.reduceMul, Nat.reduceBEq, Nat.reduceLeDiff, Nat.reduceLT]
  refine run_map (fun (zs : Int) => (frm [(1, .ptr 0 0 0), (7, .imm 5 (t7.map cHand)), (8, .i .i64 t8), (9, .i .i64 zs)], [some (Ent.box [.i .i64 (⟨vhxNo, vhxFinds, vhxSecrets, vhxSlots, vhxClaims, vhxTrials, vhxChain, vhxBook, vhxNow⟩ : House).No, .imm 8 ((⟨vhxNo, vhxFinds, vhxSecrets, vhxSlots, vhxClaims, vhxTrials, vhxChain, vhxBook, vhxNow⟩ : House).Finds.map cFind), .imm 3 ((⟨vhxNo, vhxFinds, vhxSecrets, vhxSlots, vhxClaims, vhxTrials, vhxChain, vhxBook, vhxNow⟩ : House).Secrets.map cSecret), .imm 3 ((⟨vhxNo, vhxFinds, vhxSecrets, vhxSlots, vhxClaims, vhxTrials, vhxChain, vhxBook, vhxNow⟩ : House).Slots.map cSlot), .imm 5 ((⟨vhxNo, vhxFinds, vhxSecrets, vhxSlots, vhxClaims, vhxTrials, vhxChain, vhxBook, vhxNow⟩ : House).Claims.map cClaim), .imm 4 ((⟨vhxNo, vhxFinds, vhxSecrets, vhxSlots, vhxClaims, vhxTrials, vhxChain, vhxBook, vhxNow⟩ : House).Trials.map cTrial), .imm 5 ((⟨vhxNo, vhxFinds, vhxSecrets, vhxSlots, vhxClaims, vhxTrials, vhxChain, vhxBook, vhxNow⟩ : House).Chain.map cHand), .imm 4 ((⟨vhxNo, vhxFinds, vhxSecrets, vhxSlots, vhxClaims, vhxTrials, vhxChain, vhxBook, vhxNow⟩ : House).Book.map cEntry), .i .i64 (⟨vhxNo, vhxFinds, vhxSecrets, vhxSlots, vhxClaims, vhxTrials, vhxChain, vhxBook, vhxNow⟩ : House).Now])])) (evO (fun (zr : Bool) => (XE.ret, frm [(2, .b zr)], [])) (fun (zr : Unit) => (XE.exit 0, frm [], []))) ?_ t9
  intro t9
  simp -dsimp +contextual only [↓evA, evB, evT, tys, encs, Nat.reduceAdd, Nat.reduceMul, Nat.reduceBEq, Nat.reduceLeDiff, Nat.reduceLT, TP, orc_p, orc_l, e_impl_isServed, e_impl_FindThing, e_impl_IsDue]
  try simp only [impl_IsNeverEarly_l2, evT, encs, c_js, r_map_some, e_need_t]
  all_goals rfl
theorem e_impl_IsNeverEarly (n : Nat) (vhxNo : Int) {R1} {vhxFinds : List Find} {R2} {vhxSecrets : List Secret} {R3} {vhxSlots : List Slot} {R4} {vhxClaims : List Claim} {R5} {vhxTrials : List Trial} {R6} {vhxChain : List Hand} {R7} {vhxBook : List Entry} (vhxNow : Int) [H1 : EncL cFind R1 vhxFinds] [H2 : EncL cSecret R2 vhxSecrets] [H3 : EncL cSlot R3 vhxSlots] [H4 : EncL cClaim R4 vhxClaims] [H5 : EncL cTrial R5 vhxTrials] [H6 : EncL cHand R6 vhxChain] [H7 : EncL cEntry R7 vhxBook] : CP T (n + 7) 36 [.agg [.i .i64 vhxNo, .imm 8 R1, .imm 3 R2, .imm 3 R3, .imm 5 R4, .imm 4 R5, .imm 5 R6, .imm 4 R7, .i .i64 vhxNow]] = (impl_IsNeverEarly (⟨vhxNo, vhxFinds, vhxSecrets, vhxSlots, vhxClaims, vhxTrials, vhxChain, vhxBook, vhxNow⟩ : House)).map fun r => .b r := by
  obtain ⟨rfl⟩ := H1
  obtain ⟨rfl⟩ := H2
  obtain ⟨rfl⟩ := H3
  obtain ⟨rfl⟩ := H4
  obtain ⟨rfl⟩ := H5
  obtain ⟨rfl⟩ := H6
  obtain ⟨rfl⟩ := H7
  rw [CP_eq]
  simp -dsimp +contextual only [↓evA, evB, evT, tys, encs, Nat.reduceAdd, Nat.reduceMul, Nat.reduceBEq, Nat.reduceLeDiff, Nat.reduceLT, Try.func36, Try.f36, a36, TP, orc_p, orc_l, e_impl_IsNeverEarly_l2]
  try simp only [impl_IsNeverEarly, evT, encs, c_js, r_map_some, e_need_t]
  all_goals rfl
theorem e_laws_FnExactIsNeverEarly (n : Nat) (aHxNo : Int) {R1} {aHxFinds : List Find} {R2} {aHxSecrets : List Secret} {R3} {aHxSlots : List Slot} {R4} {aHxClaims : List Claim} {R5} {aHxTrials : List Trial} {R6} {aHxChain : List Hand} {R7} {aHxBook : List Entry} (aHxNow : Int) [H1 : EncL cFind R1 aHxFinds] [H2 : EncL cSecret R2 aHxSecrets] [H3 : EncL cSlot R3 aHxSlots] [H4 : EncL cClaim R4 aHxClaims] [H5 : EncL cTrial R5 aHxTrials] [H6 : EncL cHand R6 aHxChain] [H7 : EncL cEntry R7 aHxBook] : CP T (n + 8) 8 [.agg [.i .i64 aHxNo, .imm 8 R1, .imm 3 R2, .imm 3 R3, .imm 5 R4, .imm 4 R5, .imm 5 R6, .imm 4 R7, .i .i64 aHxNow]] = (laws_FnExactIsNeverEarly (⟨aHxNo, aHxFinds, aHxSecrets, aHxSlots, aHxClaims, aHxTrials, aHxChain, aHxBook, aHxNow⟩ : House)).map fun r => .b r := by
  obtain ⟨rfl⟩ := H1
  obtain ⟨rfl⟩ := H2
  obtain ⟨rfl⟩ := H3
  obtain ⟨rfl⟩ := H4
  obtain ⟨rfl⟩ := H5
  obtain ⟨rfl⟩ := H6
  obtain ⟨rfl⟩ := H7
  rw [CP_eq]
  simp -dsimp +contextual only [↓evA, evB, evT, tys, encs, Nat.reduceAdd, Nat.reduceMul, Nat.reduceBEq, Nat.reduceLeDiff, Nat.reduceLT, Try.func8, Try.f8, a8, TP, orc_p, orc_l, e_laws_szHouse, e_laws_toHouse, e_spec_IsNeverEarly, e_impl_IsNeverEarly, e_laws_eqHouse]
  try simp only [laws_FnExactIsNeverEarly, evT, encs, c_js, r_map_some, e_need_t]
  all_goals rfl
theorem e_laws_eqBid (n : Nat) (axWho : Int) (axCents : Int) (axSeal : Int) (bxWho : Int) (bxCents : Int) (bxSeal : Int) : CP T (n + 1) 122 [.agg [.i .i64 axWho, .i .i64 axCents, .i .i64 axSeal], .agg [.i .i64 bxWho, .i .i64 bxCents, .i .i64 bxSeal]] = (laws_eqBid (⟨axWho, axCents, axSeal⟩ : Bid) (⟨bxWho, bxCents, bxSeal⟩ : Bid)).map fun r => .b r := by
  rw [CP_eq]
  simp -dsimp +contextual only [↓evA, evB, evT, tys, encs, Nat.reduceAdd, Nat.reduceMul, Nat.reduceBEq, Nat.reduceLeDiff, Nat.reduceLT, Try.func122, Try.f122, a122, TP, orc_p, orc_l]
  try simp only [laws_eqBid, evT, encs, c_js, r_map_some, e_need_t]
  all_goals rfl
theorem e_laws_eqBidS_l4 (n : Nat) {R1} {a : List Bid} {R2} {b : List Bid} (i : Int) [H1 : EncL cBid R1 a] [H2 : EncL cBid R2 b] : LP T (n + 2) 88 4 (frm [(0, .imm 3 R1), (1, .imm 3 R2), (5, .i .i64 i)]) [] =
    lmap (run (laws_eqBidS_l4 a b) i) (fun (zr : Bool) => (XE.ret, frm [(4, .b zr)], [])) (fun (zr : Unit) => (XE.exit 0, frm [], [])) := by
  obtain ⟨rfl⟩ := H1
  obtain ⟨rfl⟩ := H2
  rw [LP_eq]
  simp -dsimp only [↓evA, evB, lpG_eq, Try.func88, Try.f88, a88, TP, Nat.reduceAdd, Nat.reduceMul, Nat.reduceBEq, Nat.reduceLeDiff, Nat.reduceLT]
  refine run_map (fun (zs : Int) => (frm [(0, .imm 3 (a.map cBid)), (1, .imm 3 (b.map cBid)), (5, .i .i64 zs)], [])) (evO (fun (zr : Bool) => (XE.ret, frm [(4, .b zr)], [])) (fun (zr : Unit) => (XE.exit 0, frm [], []))) ?_ i
  intro i
  simp -dsimp +contextual only [↓evA, evB, evT, tys, encs, Nat.reduceAdd, Nat.reduceMul, Nat.reduceBEq, Nat.reduceLeDiff, Nat.reduceLT, TP, orc_p, orc_l, e_laws_eqBid]
  try simp only [laws_eqBidS_l4, evT, encs, c_js, r_map_some, e_need_t]
  all_goals rfl
theorem e_laws_eqBidS (n : Nat) {R1} {a : List Bid} {R2} {b : List Bid} [H1 : EncL cBid R1 a] [H2 : EncL cBid R2 b] : CP T (n + 3) 88 [.imm 3 R1, .imm 3 R2] = (laws_eqBidS a b).map fun r => .b r := by
  obtain ⟨rfl⟩ := H1
  obtain ⟨rfl⟩ := H2
  rw [CP_eq]
  simp -dsimp +contextual only [↓evA, evB, evT, tys, encs, Nat.reduceAdd, Nat.reduceMul, Nat.reduceBEq, Nat.reduceLeDiff, Nat.reduceLT, Try.func88, Try.f88, a88, TP, orc_p, orc_l, e_laws_eqBidS_l4]
  try simp only [laws_eqBidS, evT, encs, c_js, r_map_some, e_need_t]
  all_goals rfl
theorem e_laws_eqEvent (n : Nat) (axKind : Int) (axFindxThingxId : Int) (axFindxThingxKind : Int) (axFindxThingxColour : Int) (axFindxThingxSize : Int) (axFindxThingxWorth : Int) (axFindxPlace : Int) (axFindxAt : Int) (axFindxFinder : Int) {R1} {axMarks : List Mark} (axId : Int) (axWho : Int) (axN : Int) {R2} {axBids : List Bid} (bxKind : Int) (bxFindxThingxId : Int) (bxFindxThingxKind : Int) (bxFindxThingxColour : Int) (bxFindxThingxSize : Int) (bxFindxThingxWorth : Int) (bxFindxPlace : Int) (bxFindxAt : Int) (bxFindxFinder : Int) {R3} {bxMarks : List Mark} (bxId : Int) (bxWho : Int) (bxN : Int) {R4} {bxBids : List Bid} [H1 : EncL cMark R1 axMarks] [H2 : EncL cBid R2 axBids] [H3 : EncL cMark R3 bxMarks] [H4 : EncL cBid R4 bxBids] : CP T (n + 4) 42 [.agg [.i .i64 axKind, .i .i64 axFindxThingxId, .i .i64 axFindxThingxKind, .i .i64 axFindxThingxColour, .i .i64 axFindxThingxSize, .i .i64 axFindxThingxWorth, .i .i64 axFindxPlace, .i .i64 axFindxAt, .i .i64 axFindxFinder, .imm 2 R1, .i .i64 axId, .i .i64 axWho, .i .i64 axN, .imm 3 R2], .agg [.i .i64 bxKind, .i .i64 bxFindxThingxId, .i .i64 bxFindxThingxKind, .i .i64 bxFindxThingxColour, .i .i64 bxFindxThingxSize, .i .i64 bxFindxThingxWorth, .i .i64 bxFindxPlace, .i .i64 bxFindxAt, .i .i64 bxFindxFinder, .imm 2 R3, .i .i64 bxId, .i .i64 bxWho, .i .i64 bxN, .imm 3 R4]] = (laws_eqEvent (⟨axKind, ⟨⟨axFindxThingxId, axFindxThingxKind, axFindxThingxColour, axFindxThingxSize, axFindxThingxWorth⟩, axFindxPlace, axFindxAt, axFindxFinder⟩, axMarks, axId, axWho, axN, axBids⟩ : Event) (⟨bxKind, ⟨⟨bxFindxThingxId, bxFindxThingxKind, bxFindxThingxColour, bxFindxThingxSize, bxFindxThingxWorth⟩, bxFindxPlace, bxFindxAt, bxFindxFinder⟩, bxMarks, bxId, bxWho, bxN, bxBids⟩ : Event)).map fun r => .b r := by
  obtain ⟨rfl⟩ := H1
  obtain ⟨rfl⟩ := H2
  obtain ⟨rfl⟩ := H3
  obtain ⟨rfl⟩ := H4
  rw [CP_eq]
  simp -dsimp +contextual only [↓evA, evB, evT, tys, encs, Nat.reduceAdd, Nat.reduceMul, Nat.reduceBEq, Nat.reduceLeDiff, Nat.reduceLT, Try.func42, Try.f42, a42, TP, orc_p, orc_l, e_laws_eqFind, e_laws_eqMarkS, e_laws_eqBidS]
  try simp only [laws_eqEvent, evT, encs, c_js, r_map_some, e_need_t]
  all_goals rfl
theorem e_laws_eqEventS_l4 (n : Nat) {R1} {a : List Event} {R2} {b : List Event} (i : Int) [H1 : EncL cEvent R1 a] [H2 : EncL cEvent R2 b] : LP T (n + 5) 16 4 (frm [(0, .imm 14 R1), (1, .imm 14 R2), (5, .i .i64 i)]) [] =
    lmap (run (laws_eqEventS_l4 a b) i) (fun (zr : Bool) => (XE.ret, frm [(4, .b zr)], [])) (fun (zr : Unit) => (XE.exit 0, frm [], [])) := by
  obtain ⟨rfl⟩ := H1
  obtain ⟨rfl⟩ := H2
  rw [LP_eq]
  simp -dsimp only [↓evA, evB, lpG_eq, Try.func16, Try.f16, a16, TP, Nat.reduceAdd, Nat.reduceMul, Nat.reduceBEq, Nat.reduceLeDiff, Nat.reduceLT]
  refine run_map (fun (zs : Int) => (frm [(0, .imm 14 (a.map cEvent)), (1, .imm 14 (b.map cEvent)), (5, .i .i64 zs)], [])) (evO (fun (zr : Bool) => (XE.ret, frm [(4, .b zr)], [])) (fun (zr : Unit) => (XE.exit 0, frm [], []))) ?_ i
  intro i
  simp -dsimp +contextual only [↓evA, evB, evT, tys, encs, Nat.reduceAdd, Nat.reduceMul, Nat.reduceBEq, Nat.reduceLeDiff, Nat.reduceLT, TP, orc_p, orc_l, e_laws_eqEvent]
  try simp only [laws_eqEventS_l4, evT, encs, c_js, r_map_some, e_need_t]
  all_goals rfl
theorem e_laws_eqEventS (n : Nat) {R1} {a : List Event} {R2} {b : List Event} [H1 : EncL cEvent R1 a] [H2 : EncL cEvent R2 b] : CP T (n + 6) 16 [.imm 14 R1, .imm 14 R2] = (laws_eqEventS a b).map fun r => .b r := by
  obtain ⟨rfl⟩ := H1
  obtain ⟨rfl⟩ := H2
  rw [CP_eq]
  simp -dsimp +contextual only [↓evA, evB, evT, tys, encs, Nat.reduceAdd, Nat.reduceMul, Nat.reduceBEq, Nat.reduceLeDiff, Nat.reduceLT, Try.func16, Try.f16, a16, TP, orc_p, orc_l, e_laws_eqEventS_l4]
  try simp only [laws_eqEventS, evT, encs, c_js, r_map_some, e_need_t]
  all_goals rfl
theorem e_laws_heldMarkS_l2 (n : Nat) {R1} {a : List Mark} (k : Int) (i : Int) [H1 : EncL cMark R1 a] : LP T (n + 1) 46 2 (frm [(0, .imm 2 R1), (1, .i .i64 k), (5, .i .i64 i)]) [] =
    lmap (run (laws_heldMarkS_l2 a) (k, i)) (fun (zr : Int) => (XE.ret, frm [(4, .i .i64 zr)], [])) (fun (zr : Int) => (XE.exit 0, frm [(1, .i .i64 zr)], [])) := by
  obtain ⟨rfl⟩ := H1
  rw [LP_eq]
  simp -dsimp only [↓evA, evB, lpG_eq, Try.func46, Try.f46, a46, TP, Nat.reduceAdd, Nat.reduceMul, Nat.reduceBEq, Nat.reduceLeDiff, Nat.reduceLT]
  refine run_map (fun (zs : Int × Int) => (frm [(0, .imm 2 (a.map cMark)), (1, .i .i64 zs.1), (5, .i .i64 zs.2)], [])) (evO (fun (zr : Int) => (XE.ret, frm [(4, .i .i64 zr)], [])) (fun (zr : Int) => (XE.exit 0, frm [(1, .i .i64 zr)], []))) ?_ (k, i)
  rintro ⟨k, i⟩
  simp -dsimp +contextual only [↓evA, evB, evT, tys, encs, Nat.reduceAdd, Nat.reduceMul, Nat.reduceBEq, Nat.reduceLeDiff, Nat.reduceLT, TP, orc_p, orc_l]
  try simp only [laws_heldMarkS_l2, evT, encs, c_js, r_map_some, e_need_t]
  all_goals rfl
theorem e_laws_heldMarkS (n : Nat) {R1} {a : List Mark} (k : Int) [H1 : EncL cMark R1 a] : CP T (n + 2) 46 [.imm 2 R1, .i .i64 k] = (laws_heldMarkS a k).map fun r => .i .i64 r := by
  obtain ⟨rfl⟩ := H1
  rw [CP_eq]
  simp -dsimp +contextual only [↓evA, evB, evT, tys, encs, Nat.reduceAdd, Nat.reduceMul, Nat.reduceBEq, Nat.reduceLeDiff, Nat.reduceLT, Try.func46, Try.f46, a46, TP, orc_p, orc_l, e_laws_heldMarkS_l2]
  try simp only [laws_heldMarkS, evT, encs, c_js, r_map_some, e_need_t]
  all_goals rfl
theorem e_laws_heldBidS_l2 (n : Nat) {R1} {a : List Bid} (k : Int) (i : Int) [H1 : EncL cBid R1 a] : LP T (n + 1) 47 2 (frm [(0, .imm 3 R1), (1, .i .i64 k), (5, .i .i64 i)]) [] =
    lmap (run (laws_heldBidS_l2 a) (k, i)) (fun (zr : Int) => (XE.ret, frm [(4, .i .i64 zr)], [])) (fun (zr : Int) => (XE.exit 0, frm [(1, .i .i64 zr)], [])) := by
  obtain ⟨rfl⟩ := H1
  rw [LP_eq]
  simp -dsimp only [↓evA, evB, lpG_eq, Try.func47, Try.f47, a47, TP, Nat.reduceAdd, Nat.reduceMul, Nat.reduceBEq, Nat.reduceLeDiff, Nat.reduceLT]
  refine run_map (fun (zs : Int × Int) => (frm [(0, .imm 3 (a.map cBid)), (1, .i .i64 zs.1), (5, .i .i64 zs.2)], [])) (evO (fun (zr : Int) => (XE.ret, frm [(4, .i .i64 zr)], [])) (fun (zr : Int) => (XE.exit 0, frm [(1, .i .i64 zr)], []))) ?_ (k, i)
  rintro ⟨k, i⟩
  simp -dsimp +contextual only [↓evA, evB, evT, tys, encs, Nat.reduceAdd, Nat.reduceMul, Nat.reduceBEq, Nat.reduceLeDiff, Nat.reduceLT, TP, orc_p, orc_l]
  try simp only [laws_heldBidS_l2, evT, encs, c_js, r_map_some, e_need_t]
  all_goals rfl
theorem e_laws_heldBidS (n : Nat) {R1} {a : List Bid} (k : Int) [H1 : EncL cBid R1 a] : CP T (n + 2) 47 [.imm 3 R1, .i .i64 k] = (laws_heldBidS a k).map fun r => .i .i64 r := by
  obtain ⟨rfl⟩ := H1
  rw [CP_eq]
  simp -dsimp +contextual only [↓evA, evB, evT, tys, encs, Nat.reduceAdd, Nat.reduceMul, Nat.reduceBEq, Nat.reduceLeDiff, Nat.reduceLT, Try.func47, Try.f47, a47, TP, orc_p, orc_l, e_laws_heldBidS_l2]
  try simp only [laws_heldBidS, evT, encs, c_js, r_map_some, e_need_t]
  all_goals rfl
theorem e_laws_heldEventS_l2 (n : Nat) {R1} {a : List Event} (t1 : Int) (t5 : Int) [H1 : EncL cEvent R1 a] : LP T (n + 3) 22 2 (frm [(0, .imm 14 R1), (1, .i .i64 t1), (5, .i .i64 t5)]) [] =
    lmap (run (laws_heldEventS_l2 a) (t1, t5)) (fun (zr : Int) => (XE.ret, frm [(4, .i .i64 zr)], [])) (fun (zr : Int) => (XE.exit 0, frm [(1, .i .i64 zr)], [])) := by
  obtain ⟨rfl⟩ := H1
  rw [LP_eq]
  simp -dsimp only [↓evA, evB, lpG_eq, Try.func22, Try.f22, a22, TP, Nat.reduceAdd, Nat.reduceMul, Nat.reduceBEq, Nat.reduceLeDiff, Nat.reduceLT]
  refine run_map (fun (zs : Int × Int) => (frm [(0, .imm 14 (a.map cEvent)), (1, .i .i64 zs.1), (5, .i .i64 zs.2)], [])) (evO (fun (zr : Int) => (XE.ret, frm [(4, .i .i64 zr)], [])) (fun (zr : Int) => (XE.exit 0, frm [(1, .i .i64 zr)], []))) ?_ (t1, t5)
  rintro ⟨t1, t5⟩
  simp -dsimp +contextual only [↓evA, evB, evT, tys, encs, Nat.reduceAdd, Nat.reduceMul, Nat.reduceBEq, Nat.reduceLeDiff, Nat.reduceLT, TP, orc_p, orc_l, e_laws_heldMarkS, e_laws_heldBidS]
  try simp only [laws_heldEventS_l2, evT, encs, c_js, r_map_some, e_need_t]
  all_goals rfl
theorem e_laws_heldEventS (n : Nat) {R1} {a : List Event} (a2 : Int) [H1 : EncL cEvent R1 a] : CP T (n + 4) 22 [.imm 14 R1, .i .i64 a2] = (laws_heldEventS a a2).map fun r => .i .i64 r := by
  obtain ⟨rfl⟩ := H1
  rw [CP_eq]
  simp -dsimp +contextual only [↓evA, evB, evT, tys, encs, Nat.reduceAdd, Nat.reduceMul, Nat.reduceBEq, Nat.reduceLeDiff, Nat.reduceLT, Try.func22, Try.f22, a22, TP, orc_p, orc_l, e_laws_heldEventS_l2]
  try simp only [laws_heldEventS, evT, encs, c_js, r_map_some, e_need_t]
  all_goals rfl
theorem e_spec_AreEntries_l2 (n : Nat) {R1} {l : List Entry} (i : Int) [H1 : EncL cEntry R1 l] : LP T (n + 2) 117 2 (frm [(0, .imm 4 R1), (3, .i .i64 i)]) [] =
    lmap (run (spec_AreEntries_l2 l) i) (fun (zr : Bool) => (XE.ret, frm [(2, .b zr)], [])) (fun (zr : Unit) => (XE.exit 0, frm [(0, .imm 4 (l.map cEntry))], [])) := by
  obtain ⟨rfl⟩ := H1
  rw [LP_eq]
  simp -dsimp only [↓evA, evB, lpG_eq, Try.func117, Try.f117, a117, TP, Nat.reduceAdd, Nat.reduceMul, Nat.reduceBEq, Nat.reduceLeDiff, Nat.reduceLT]
  refine run_map (fun (zs : Int) => (frm [(0, .imm 4 (l.map cEntry)), (3, .i .i64 zs)], [])) (evO (fun (zr : Bool) => (XE.ret, frm [(2, .b zr)], [])) (fun (zr : Unit) => (XE.exit 0, frm [(0, .imm 4 (l.map cEntry))], []))) ?_ i
  intro i
  simp -dsimp +contextual only [↓evA, evB, evT, tys, encs, Nat.reduceAdd, Nat.reduceMul, Nat.reduceBEq, Nat.reduceLeDiff, Nat.reduceLT, TP, orc_p, orc_l, e_spec_l1In]
  try simp only [spec_AreEntries_l2, evT, encs, c_js, r_map_some, e_need_t]
  all_goals rfl
theorem e_spec_AreEntries (n : Nat) {R1} {l : List Entry} [H1 : EncL cEntry R1 l] : CP T (n + 3) 117 [.imm 4 R1] = (spec_AreEntries l).map fun r => .b r := by
  obtain ⟨rfl⟩ := H1
  rw [CP_eq]
  simp -dsimp +contextual only [↓evA, evB, evT, tys, encs, Nat.reduceAdd, Nat.reduceMul, Nat.reduceBEq, Nat.reduceLeDiff, Nat.reduceLT, Try.func117, Try.f117, a117, TP, orc_p, orc_l, e_spec_AreEntries_l2]
  try simp only [spec_AreEntries, evT, encs, c_js, r_map_some, e_need_t]
  all_goals rfl
theorem e_spec_Balance_l3 (n : Nat) {R1} {l : List Entry} (account : Int) (vn : Int) (i : Int) [H1 : EncL cEntry R1 l] : LP T (n + 4) 84 3 (frm [(0, .imm 4 R1), (1, .i .i64 account), (5, .i .i64 vn), (6, .i .i64 i)]) [] =
    (run (spec_Balance_l3 l account) (vn, i)).map (fun (zr : Int) => (XE.exit 0, frm [(5, .i .i64 zr)], [])) := by
  obtain ⟨rfl⟩ := H1
  rw [LP_eq]
  simp -dsimp only [↓evA, evB, lpG_eq, Try.func84, Try.f84, a84, TP, Nat.reduceAdd, Nat.reduceMul, Nat.reduceBEq, Nat.reduceLeDiff, Nat.reduceLT]
  refine run_map (fun (zs : Int × Int) => (frm [(0, .imm 4 (l.map cEntry)), (1, .i .i64 account), (5, .i .i64 zs.1), (6, .i .i64 zs.2)], [])) (fun (zr : Int) => (XE.exit 0, frm [(5, .i .i64 zr)], [])) ?_ (vn, i)
  rintro ⟨vn, i⟩
  simp -dsimp +contextual only [↓evA, evB, evT, tys, encs, Nat.reduceAdd, Nat.reduceMul, Nat.reduceBEq, Nat.reduceLeDiff, Nat.reduceLT, TP, orc_p, orc_l, e_spec_AreEntries]
  try simp only [spec_Balance_l3, evT, encs, c_js, r_map_some, e_need_t]
  all_goals rfl
theorem e_spec_Balance (n : Nat) {R1} {l : List Entry} (account : Int) [H1 : EncL cEntry R1 l] : CP T (n + 5) 84 [.imm 4 R1, .i .i64 account] = (spec_Balance l account).map fun r => .i .i64 r := by
  obtain ⟨rfl⟩ := H1
  rw [CP_eq]
  simp -dsimp +contextual only [↓evA, evB, evT, tys, encs, Nat.reduceAdd, Nat.reduceMul, Nat.reduceBEq, Nat.reduceLeDiff, Nat.reduceLT, Try.func84, Try.f84, a84, TP, orc_p, orc_l, e_spec_Balance_l3]
  try simp only [spec_Balance, evT, encs, c_js, r_map_some, e_need_t]
  all_goals rfl
theorem e_impl_AreEntries_l4 (n : Nat) {R1} {l : List Entry} {R2} {t8 : List Entry} (t9 : Int) (t10 : Int) [H1 : EncL cEntry R1 l] [H2 : EncL cEntry R2 t8] : LP T (n + 2) 119 4 (frm [(0, .imm 4 R1), (8, .imm 4 R2), (9, .i .i64 t9), (10, .i .i64 t10)]) [] =
    lmap (run (impl_AreEntries_l4 l t8 t9) t10) (fun (zr : Bool) => (XE.ret, frm [(2, .b zr)], [])) (fun (zr : Unit) => (XE.exit 0, frm [], [])) := by
  obtain ⟨rfl⟩ := H1
  obtain ⟨rfl⟩ := H2
  rw [LP_eq]
  simp -dsimp only [↓evA, evB, lpG_eq, Try.func119, Try.f119, a119, TP, Nat.reduceAdd, Nat.reduceMul, Nat.reduceBEq, Nat.reduceLeDiff, Nat.reduceLT]
  refine run_map (fun (zs : Int) => (frm [(0, .imm 4 (l.map cEntry)), (8, .imm 4 (t8.map cEntry)), (9, .i .i64 t9), (10, .i .i64 zs)], [])) (evO (fun (zr : Bool) => (XE.ret, frm [(2, .b zr)], [])) (fun (zr : Unit) => (XE.exit 0, frm [], []))) ?_ t10
  intro t10
  simp -dsimp +contextual only [↓evA, evB, evT, tys, encs, Nat.reduceAdd, Nat.reduceMul, Nat.reduceBEq, Nat.reduceLeDiff, Nat.reduceLT, TP, orc_p, orc_l, e_impl_InRange]
  try simp only [impl_AreEntries_l4, evT, encs, c_js, r_map_some, e_need_t]
  all_goals rfl
theorem e_impl_AreEntries (n : Nat) {R1} {l : List Entry} [H1 : EncL cEntry R1 l] : CP T (n + 3) 119 [.imm 4 R1] = (impl_AreEntries l).map fun r => .b r := by
  obtain ⟨rfl⟩ := H1
  rw [CP_eq]
  simp -dsimp +contextual only [↓evA, evB, evT, tys, encs, Nat.reduceAdd, Nat.reduceMul, Nat.reduceBEq, Nat.reduceLeDiff, Nat.reduceLT, Try.func119, Try.f119, a119, TP, orc_p, orc_l, e_impl_AreEntries_l4]
  try simp only [impl_AreEntries, evT, encs, c_js, r_map_some, e_need_t]
  all_goals rfl
theorem e_impl_totalTo_l3 (n : Nat) (account : Int) (vn : Int) {R1} {t8 : List Entry} (t9 : Int) (t10 : Int) [H1 : EncL cEntry R1 t8] : LP T (n + 1) 120 3 (frm [(1, .i .i64 account), (5, .i .i64 vn), (8, .imm 4 R1), (9, .i .i64 t9), (10, .i .i64 t10)]) [] =
    (run (impl_totalTo_l3 account t8 t9) (vn, t10)).map (fun (zr : Int) => (XE.exit 0, frm [(5, .i .i64 zr)], [])) := by
  obtain ⟨rfl⟩ := H1
  rw [LP_eq]
  simp -dsimp only [↓evA, evB, lpG_eq, Try.func120, Try.f120, a120, TP, Nat.reduceAdd, Nat.reduceMul, Nat.reduceBEq, Nat.reduceLeDiff, Nat.reduceLT]
  refine run_map (fun (zs : Int × Int) => (frm [(1, .i .i64 account), (5, .i .i64 zs.1), (8, .imm 4 (t8.map cEntry)), (9, .i .i64 t9), (10, .i .i64 zs.2)], [])) (fun (zr : Int) => (XE.exit 0, frm [(5, .i .i64 zr)], [])) ?_ (vn, t10)
  rintro ⟨vn, t10⟩
  simp -dsimp +contextual only [↓evA, evB, evT, tys, encs, Nat.reduceAdd, Nat.reduceMul, Nat.reduceBEq, Nat.reduceLeDiff, Nat.reduceLT, TP, orc_p, orc_l]
  try simp only [impl_totalTo_l3, evT, encs, c_js, r_map_some, e_need_t]
  all_goals rfl
theorem e_impl_totalTo (n : Nat) {R1} {l : List Entry} (account : Int) [H1 : EncL cEntry R1 l] : CP T (n + 2) 120 [.imm 4 R1, .i .i64 account] = (impl_totalTo l account).map fun r => .i .i64 r := by
  obtain ⟨rfl⟩ := H1
  rw [CP_eq]
  simp -dsimp +contextual only [↓evA, evB, evT, tys, encs, Nat.reduceAdd, Nat.reduceMul, Nat.reduceBEq, Nat.reduceLeDiff, Nat.reduceLT, Try.func120, Try.f120, a120, TP, orc_p, orc_l, e_impl_totalTo_l3]
  try simp only [impl_totalTo, evT, encs, c_js, r_map_some, e_need_t]
  all_goals rfl
theorem e_impl_TotalPaid_l5 (n : Nat) (account : Int) (vn : Int) {R1} {t12 : List Entry} (t13 : Int) (t14 : Int) [H1 : EncL cEntry R1 t12] : LP T (n + 1) 121 5 (frm [(1, .i .i64 account), (5, .i .i64 vn), (12, .imm 4 R1), (13, .i .i64 t13), (14, .i .i64 t14)]) [] =
    (run (impl_TotalPaid_l5 account t12 t13) (vn, t14)).map (fun (zr : Int) => (XE.exit 0, frm [(5, .i .i64 zr)], [])) := by
  obtain ⟨rfl⟩ := H1
  rw [LP_eq]
  simp -dsimp only [↓evA, evB, lpG_eq, Try.func121, Try.f121, a121, TP, Nat.reduceAdd, Nat.reduceMul, Nat.reduceBEq, Nat.reduceLeDiff, Nat.reduceLT]
  refine run_map (fun (zs : Int × Int) => (frm [(1, .i .i64 account), (5, .i .i64 zs.1), (12, .imm 4 (t12.map cEntry)), (13, .i .i64 t13), (14, .i .i64 zs.2)], [])) (fun (zr : Int) => (XE.exit 0, frm [(5, .i .i64 zr)], [])) ?_ (vn, t14)
  rintro ⟨vn, t14⟩
  simp -dsimp +contextual only [↓evA, evB, evT, tys, encs, Nat.reduceAdd, Nat.reduceMul, Nat.reduceBEq, Nat.reduceLeDiff, Nat.reduceLT, TP, orc_p, orc_l]
  try simp only [impl_TotalPaid_l5, evT, encs, c_js, r_map_some, e_need_t]
  all_goals rfl
theorem e_impl_TotalPaid (n : Nat) {R1} {l : List Entry} (account : Int) [H1 : EncL cEntry R1 l] : CP T (n + 4) 121 [.imm 4 R1, .i .i64 account] = (impl_TotalPaid l account).map fun r => .i .i64 r := by
  obtain ⟨rfl⟩ := H1
  rw [CP_eq]
  simp -dsimp +contextual only [↓evA, evB, evT, tys, encs, Nat.reduceAdd, Nat.reduceMul, Nat.reduceBEq, Nat.reduceLeDiff, Nat.reduceLT, Try.func121, Try.f121, a121, TP, orc_p, orc_l, e_impl_AreEntries, e_impl_TotalPaid_l5]
  try simp only [impl_TotalPaid, evT, encs, c_js, r_map_some, e_need_t]
  all_goals rfl
theorem e_impl_Balance (n : Nat) {R1} {l : List Entry} (account : Int) [H1 : EncL cEntry R1 l] : CP T (n + 5) 86 [.imm 4 R1, .i .i64 account] = (impl_Balance l account).map fun r => .i .i64 r := by
  obtain ⟨rfl⟩ := H1
  rw [CP_eq]
  simp -dsimp +contextual only [↓evA, evB, evT, tys, encs, Nat.reduceAdd, Nat.reduceMul, Nat.reduceBEq, Nat.reduceLeDiff, Nat.reduceLT, Try.func86, Try.f86, a86, TP, orc_p, orc_l, e_impl_AreEntries, e_impl_totalTo, e_impl_TotalPaid]
  try simp only [impl_Balance, evT, encs, c_js, r_map_some, e_need_t]
  all_goals rfl
end Go.Proofs.Ytcpelionmmnogaa
