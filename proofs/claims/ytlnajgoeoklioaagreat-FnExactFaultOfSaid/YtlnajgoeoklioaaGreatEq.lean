/- The functions of the program come to the typed ones. No condition. -/
import Derived.Test.YtlnajgoeoklioaaGreatEc
namespace Go.Proofs.YtlnajgoeoklioaaGreat
open Go Go.Proofs Go.Proofs.YtlnajgoeoklioaaGreat.Am
set_option linter.unusedVariables false
set_option linter.unusedSimpArgs false
set_option linter.defProp false
set_option maxRecDepth 100000
theorem e_laws_szFindS (n : Nat) {R1} {a : List Find} (left : Int) [H1 : EncL cFind R1 a] : CP T (n + 1) 34 [.imm 8 R1, .i .i64 left] = (laws_szFindS a left).map fun r => .i .i64 r := by
  obtain ⟨rfl⟩ := H1
  rw [CP_eq]
  simp -dsimp +contextual only [↓evA, evB, evT, tys, encs, Nat.reduceAdd, Nat.reduceMul, Nat.reduceBEq, Nat.reduceLeDiff, Nat.reduceLT, Tryz.func34, Tryz.f34, a34, TP, orc_p, orc_l]
  try simp only [laws_szFindS, evT, encs, c_js, r_map_some, e_need_t]
  all_goals rfl
theorem e_laws_szMarkS (n : Nat) {R1} {a : List Mark} (left : Int) [H1 : EncL cMark R1 a] : CP T (n + 1) 27 [.imm 2 R1, .i .i64 left] = (laws_szMarkS a left).map fun r => .i .i64 r := by
  obtain ⟨rfl⟩ := H1
  rw [CP_eq]
  simp -dsimp +contextual only [↓evA, evB, evT, tys, encs, Nat.reduceAdd, Nat.reduceMul, Nat.reduceBEq, Nat.reduceLeDiff, Nat.reduceLT, Tryz.func27, Tryz.f27, a27, TP, orc_p, orc_l]
  try simp only [laws_szMarkS, evT, encs, c_js, r_map_some, e_need_t]
  all_goals rfl
theorem e_laws_szSecret (n : Nat) (axThing : Int) {R1} {axMarks : List Mark} (axSalt : Int) (left : Int) [H1 : EncL cMark R1 axMarks] : CP T (n + 2) 123 [.agg [.i .i64 axThing, .imm 2 R1, .i .i64 axSalt], .i .i64 left] = (laws_szSecret (⟨axThing, axMarks, axSalt⟩ : Secret) left).map fun r => .i .i64 r := by
  obtain ⟨rfl⟩ := H1
  rw [CP_eq]
  simp -dsimp +contextual only [↓evA, evB, evT, tys, encs, Nat.reduceAdd, Nat.reduceMul, Nat.reduceBEq, Nat.reduceLeDiff, Nat.reduceLT, Tryz.func123, Tryz.f123, a123, TP, orc_p, orc_l, e_laws_szMarkS]
  try simp only [laws_szSecret, evT, encs, c_js, r_map_some, e_need_t]
  all_goals rfl
theorem e_laws_szSecretS_l5 (n : Nat) {R1} {a : List Secret} (left : Int) (i : Int) [H1 : EncL cSecret R1 a] : LP T (n + 3) 35 5 (frm [(0, .imm 3 R1), (1, .i .i64 left), (5, .i .i64 i)]) [] =
    lmap (run (laws_szSecretS_l5 a) (left, i)) (fun (zr : Int) => (XE.ret, frm [(4, .i .i64 zr)], [])) (fun (zr : Int) => (XE.exit 0, frm [(1, .i .i64 zr)], [])) := by
  obtain ⟨rfl⟩ := H1
  rw [LP_eq]
  simp -dsimp only [↓evA, evB, lpG_eq, Tryz.func35, Tryz.f35, a35, TP, Nat.reduceAdd, Nat.reduceMul, Nat.reduceBEq, Nat.reduceLeDiff, Nat.reduceLT]
  refine run_map (fun (zs : Int × Int) => (frm [(0, .imm 3 (a.map cSecret)), (1, .i .i64 zs.1), (5, .i .i64 zs.2)], [])) (evO (fun (zr : Int) => (XE.ret, frm [(4, .i .i64 zr)], [])) (fun (zr : Int) => (XE.exit 0, frm [(1, .i .i64 zr)], []))) ?_ (left, i)
  rintro ⟨left, i⟩
  simp -dsimp +contextual only [↓evA, evB, evT, tys, encs, Nat.reduceAdd, Nat.reduceMul, Nat.reduceBEq, Nat.reduceLeDiff, Nat.reduceLT, TP, orc_p, orc_l, e_laws_szSecret]
  try simp only [laws_szSecretS_l5, evT, encs, c_js, r_map_some, e_need_t]
  all_goals rfl
theorem e_laws_szSecretS (n : Nat) {R1} {a : List Secret} (left : Int) [H1 : EncL cSecret R1 a] : CP T (n + 4) 35 [.imm 3 R1, .i .i64 left] = (laws_szSecretS a left).map fun r => .i .i64 r := by
  obtain ⟨rfl⟩ := H1
  rw [CP_eq]
  simp -dsimp +contextual only [↓evA, evB, evT, tys, encs, Nat.reduceAdd, Nat.reduceMul, Nat.reduceBEq, Nat.reduceLeDiff, Nat.reduceLT, Tryz.func35, Tryz.f35, a35, TP, orc_p, orc_l, e_laws_szSecretS_l5]
  try simp only [laws_szSecretS, evT, encs, c_js, r_map_some, e_need_t]
  all_goals rfl
theorem e_laws_szSlotS (n : Nat) {R1} {a : List Slot} (left : Int) [H1 : EncL cSlot R1 a] : CP T (n + 1) 36 [.imm 3 R1, .i .i64 left] = (laws_szSlotS a left).map fun r => .i .i64 r := by
  obtain ⟨rfl⟩ := H1
  rw [CP_eq]
  simp -dsimp +contextual only [↓evA, evB, evT, tys, encs, Nat.reduceAdd, Nat.reduceMul, Nat.reduceBEq, Nat.reduceLeDiff, Nat.reduceLT, Tryz.func36, Tryz.f36, a36, TP, orc_p, orc_l]
  try simp only [laws_szSlotS, evT, encs, c_js, r_map_some, e_need_t]
  all_goals rfl
theorem e_laws_szClaimS (n : Nat) {R1} {a : List Claim} (left : Int) [H1 : EncL cClaim R1 a] : CP T (n + 1) 37 [.imm 5 R1, .i .i64 left] = (laws_szClaimS a left).map fun r => .i .i64 r := by
  obtain ⟨rfl⟩ := H1
  rw [CP_eq]
  simp -dsimp +contextual only [↓evA, evB, evT, tys, encs, Nat.reduceAdd, Nat.reduceMul, Nat.reduceBEq, Nat.reduceLeDiff, Nat.reduceLT, Tryz.func37, Tryz.f37, a37, TP, orc_p, orc_l]
  try simp only [laws_szClaimS, evT, encs, c_js, r_map_some, e_need_t]
  all_goals rfl
theorem e_laws_szTrialS (n : Nat) {R1} {a : List Trial} (left : Int) [H1 : EncL cTrial R1 a] : CP T (n + 1) 38 [.imm 4 R1, .i .i64 left] = (laws_szTrialS a left).map fun r => .i .i64 r := by
  obtain ⟨rfl⟩ := H1
  rw [CP_eq]
  simp -dsimp +contextual only [↓evA, evB, evT, tys, encs, Nat.reduceAdd, Nat.reduceMul, Nat.reduceBEq, Nat.reduceLeDiff, Nat.reduceLT, Tryz.func38, Tryz.f38, a38, TP, orc_p, orc_l]
  try simp only [laws_szTrialS, evT, encs, c_js, r_map_some, e_need_t]
  all_goals rfl
theorem e_laws_szHandS (n : Nat) {R1} {a : List Hand} (left : Int) [H1 : EncL cHand R1 a] : CP T (n + 1) 39 [.imm 5 R1, .i .i64 left] = (laws_szHandS a left).map fun r => .i .i64 r := by
  obtain ⟨rfl⟩ := H1
  rw [CP_eq]
  simp -dsimp +contextual only [↓evA, evB, evT, tys, encs, Nat.reduceAdd, Nat.reduceMul, Nat.reduceBEq, Nat.reduceLeDiff, Nat.reduceLT, Tryz.func39, Tryz.f39, a39, TP, orc_p, orc_l]
  try simp only [laws_szHandS, evT, encs, c_js, r_map_some, e_need_t]
  all_goals rfl
theorem e_laws_szEntryS (n : Nat) {R1} {a : List Entry} (left : Int) [H1 : EncL cEntry R1 a] : CP T (n + 1) 40 [.imm 4 R1, .i .i64 left] = (laws_szEntryS a left).map fun r => .i .i64 r := by
  obtain ⟨rfl⟩ := H1
  rw [CP_eq]
  simp -dsimp +contextual only [↓evA, evB, evT, tys, encs, Nat.reduceAdd, Nat.reduceMul, Nat.reduceBEq, Nat.reduceLeDiff, Nat.reduceLT, Tryz.func40, Tryz.f40, a40, TP, orc_p, orc_l]
  try simp only [laws_szEntryS, evT, encs, c_js, r_map_some, e_need_t]
  all_goals rfl
theorem e_laws_szHouse (n : Nat) (axNo : Int) {R1} {axFinds : List Find} {R2} {axSecrets : List Secret} {R3} {axSlots : List Slot} {R4} {axClaims : List Claim} {R5} {axTrials : List Trial} {R6} {axChain : List Hand} {R7} {axBook : List Entry} (axNow : Int) (left : Int) [H1 : EncL cFind R1 axFinds] [H2 : EncL cSecret R2 axSecrets] [H3 : EncL cSlot R3 axSlots] [H4 : EncL cClaim R4 axClaims] [H5 : EncL cTrial R5 axTrials] [H6 : EncL cHand R6 axChain] [H7 : EncL cEntry R7 axBook] : CP T (n + 5) 10 [.agg [.i .i64 axNo, .imm 8 R1, .imm 3 R2, .imm 3 R3, .imm 5 R4, .imm 4 R5, .imm 5 R6, .imm 4 R7, .i .i64 axNow], .i .i64 left] = (laws_szHouse (⟨axNo, axFinds, axSecrets, axSlots, axClaims, axTrials, axChain, axBook, axNow⟩ : House) left).map fun r => .i .i64 r := by
  obtain ⟨rfl⟩ := H1
  obtain ⟨rfl⟩ := H2
  obtain ⟨rfl⟩ := H3
  obtain ⟨rfl⟩ := H4
  obtain ⟨rfl⟩ := H5
  obtain ⟨rfl⟩ := H6
  obtain ⟨rfl⟩ := H7
  rw [CP_eq]
  simp -dsimp +contextual only [↓evA, evB, evT, tys, encs, Nat.reduceAdd, Nat.reduceMul, Nat.reduceBEq, Nat.reduceLeDiff, Nat.reduceLT, Tryz.func10, Tryz.f10, a10, TP, orc_p, orc_l, e_laws_szFindS, e_laws_szSecretS, e_laws_szSlotS, e_laws_szClaimS, e_laws_szTrialS, e_laws_szHandS, e_laws_szEntryS]
  try simp only [laws_szHouse, evT, encs, c_js, r_map_some, e_need_t]
  all_goals rfl
theorem e_laws_toThing (n : Nat) (axId : Int) (axKind : Int) (axColour : Int) (axSize : Int) (axWorth : Int) : CP T (n + 1) 116 [.agg [.i .i64 axId, .i .i64 axKind, .i .i64 axColour, .i .i64 axSize, .i .i64 axWorth]] = (laws_toThing (⟨axId, axKind, axColour, axSize, axWorth⟩ : Thing)).map fun r => .agg (cThing r) := by
  rw [CP_eq]
  simp -dsimp +contextual only [↓evA, evB, evT, tys, encs, Nat.reduceAdd, Nat.reduceMul, Nat.reduceBEq, Nat.reduceLeDiff, Nat.reduceLT, Tryz.func116, Tryz.f116, a116, TP, orc_p, orc_l]
  try simp only [laws_toThing, evT, encs, c_js, r_map_some, e_need_t]
  all_goals rfl
theorem e_laws_toFind (n : Nat) (axThingxId : Int) (axThingxKind : Int) (axThingxColour : Int) (axThingxSize : Int) (axThingxWorth : Int) (axPlace : Int) (axAt : Int) (axFinder : Int) : CP T (n + 2) 29 [.agg [.i .i64 axThingxId, .i .i64 axThingxKind, .i .i64 axThingxColour, .i .i64 axThingxSize, .i .i64 axThingxWorth, .i .i64 axPlace, .i .i64 axAt, .i .i64 axFinder]] = (laws_toFind (⟨⟨axThingxId, axThingxKind, axThingxColour, axThingxSize, axThingxWorth⟩, axPlace, axAt, axFinder⟩ : Find)).map fun r => .agg (cFind r) := by
  rw [CP_eq]
  simp -dsimp +contextual only [↓evA, evB, evT, tys, encs, Nat.reduceAdd, Nat.reduceMul, Nat.reduceBEq, Nat.reduceLeDiff, Nat.reduceLT, Tryz.func29, Tryz.f29, a29, TP, orc_p, orc_l, e_laws_toThing]
  try simp only [laws_toFind, evT, encs, c_js, r_map_some, e_need_t]
  all_goals rfl
theorem e_laws_toFindS_l3 (n : Nat) {R1} {a : List Find} {R2} {out : List Find} (i : Int) [H1 : EncL cFind R1 a] [H2 : EncL cFind R2 out] : LP T (n + 3) 46 3 (frm [(0, .imm 8 R1), (3, .sl 0), (4, .i .i64 i)]) [some (Ent.lst 8 R2)] =
    (run (laws_toFindS_l3 a) (out, i)).map (fun (zr : (List Find)) => (XE.exit 0, frm [(3, .sl 0)], [some (Ent.lst 8 (zr.map cFind))])) := by
  obtain ⟨rfl⟩ := H1
  obtain ⟨rfl⟩ := H2
  rw [LP_eq]
  simp -dsimp only [↓evA, evB, lpG_eq, Tryz.func46, Tryz.f46, a46, TP, Nat.reduceAdd, Nat.reduceMul, Nat.reduceBEq, Nat.reduceLeDiff, Nat.reduceLT]
  refine run_map (fun (zs : (List Find) × Int) => (frm [(0, .imm 8 (a.map cFind)), (3, .sl 0), (4, .i .i64 zs.2)], [some (Ent.lst 8 (zs.1.map cFind))])) (fun (zr : (List Find)) => (XE.exit 0, frm [(3, .sl 0)], [some (Ent.lst 8 (zr.map cFind))])) ?_ (out, i)
  rintro ⟨out, i⟩
  simp -dsimp +contextual only [↓evA, evB, evT, tys, encs, Nat.reduceAdd, Nat.reduceMul, Nat.reduceBEq, Nat.reduceLeDiff, Nat.reduceLT, TP, orc_p, orc_l, e_laws_toFind]
  try simp only [laws_toFindS_l3, evT, encs, c_js, r_map_some, e_need_t]
  all_goals rfl
theorem e_laws_toFindS (n : Nat) {R1} {a : List Find} [H1 : EncL cFind R1 a] : CP T (n + 4) 46 [.imm 8 R1] = (laws_toFindS a).map fun r => .own 8 (r.map cFind) := by
  obtain ⟨rfl⟩ := H1
  rw [CP_eq]
  simp -dsimp +contextual only [↓evA, evB, evT, tys, encs, Nat.reduceAdd, Nat.reduceMul, Nat.reduceBEq, Nat.reduceLeDiff, Nat.reduceLT, Tryz.func46, Tryz.f46, a46, TP, orc_p, orc_l, e_laws_toFindS_l3]
  try simp only [laws_toFindS, evT, encs, c_js, r_map_some, e_need_t]
  all_goals rfl
theorem e_laws_toMark (n : Nat) (axQuestion : Int) (axAnswer : Int) : CP T (n + 1) 117 [.agg [.i .i64 axQuestion, .i .i64 axAnswer]] = (laws_toMark (⟨axQuestion, axAnswer⟩ : Mark)).map fun r => .agg (cMark r) := by
  rw [CP_eq]
  simp -dsimp +contextual only [↓evA, evB, evT, tys, encs, Nat.reduceAdd, Nat.reduceMul, Nat.reduceBEq, Nat.reduceLeDiff, Nat.reduceLT, Tryz.func117, Tryz.f117, a117, TP, orc_p, orc_l]
  try simp only [laws_toMark, evT, encs, c_js, r_map_some, e_need_t]
  all_goals rfl
theorem e_laws_toMarkS_l3 (n : Nat) {R1} {a : List Mark} {R2} {out : List Mark} (i : Int) [H1 : EncL cMark R1 a] [H2 : EncL cMark R2 out] : LP T (n + 2) 30 3 (frm [(0, .imm 2 R1), (3, .sl 0), (4, .i .i64 i)]) [some (Ent.lst 2 R2)] =
    (run (laws_toMarkS_l3 a) (out, i)).map (fun (zr : (List Mark)) => (XE.exit 0, frm [(3, .sl 0)], [some (Ent.lst 2 (zr.map cMark))])) := by
  obtain ⟨rfl⟩ := H1
  obtain ⟨rfl⟩ := H2
  rw [LP_eq]
  simp -dsimp only [↓evA, evB, lpG_eq, Tryz.func30, Tryz.f30, a30, TP, Nat.reduceAdd, Nat.reduceMul, Nat.reduceBEq, Nat.reduceLeDiff, Nat.reduceLT]
  refine run_map (fun (zs : (List Mark) × Int) => (frm [(0, .imm 2 (a.map cMark)), (3, .sl 0), (4, .i .i64 zs.2)], [some (Ent.lst 2 (zs.1.map cMark))])) (fun (zr : (List Mark)) => (XE.exit 0, frm [(3, .sl 0)], [some (Ent.lst 2 (zr.map cMark))])) ?_ (out, i)
  rintro ⟨out, i⟩
  simp -dsimp +contextual only [↓evA, evB, evT, tys, encs, Nat.reduceAdd, Nat.reduceMul, Nat.reduceBEq, Nat.reduceLeDiff, Nat.reduceLT, TP, orc_p, orc_l, e_laws_toMark]
  try simp only [laws_toMarkS_l3, evT, encs, c_js, r_map_some, e_need_t]
  all_goals rfl
theorem e_laws_toMarkS (n : Nat) {R1} {a : List Mark} [H1 : EncL cMark R1 a] : CP T (n + 3) 30 [.imm 2 R1] = (laws_toMarkS a).map fun r => .own 2 (r.map cMark) := by
  obtain ⟨rfl⟩ := H1
  rw [CP_eq]
  simp -dsimp +contextual only [↓evA, evB, evT, tys, encs, Nat.reduceAdd, Nat.reduceMul, Nat.reduceBEq, Nat.reduceLeDiff, Nat.reduceLT, Tryz.func30, Tryz.f30, a30, TP, orc_p, orc_l, e_laws_toMarkS_l3]
  try simp only [laws_toMarkS, evT, encs, c_js, r_map_some, e_need_t]
  all_goals rfl
theorem e_laws_toSecret (n : Nat) (axThing : Int) {R1} {axMarks : List Mark} (axSalt : Int) [H1 : EncL cMark R1 axMarks] : CP T (n + 4) 139 [.agg [.i .i64 axThing, .imm 2 R1, .i .i64 axSalt]] = (laws_toSecret (⟨axThing, axMarks, axSalt⟩ : Secret)).map fun r => .agg (cSecretO r) := by
  obtain ⟨rfl⟩ := H1
  rw [CP_eq]
  simp -dsimp +contextual only [↓evA, evB, evT, tys, encs, Nat.reduceAdd, Nat.reduceMul, Nat.reduceBEq, Nat.reduceLeDiff, Nat.reduceLT, Tryz.func139, Tryz.f139, a139, TP, orc_p, orc_l, e_laws_toMarkS]
  try simp only [laws_toSecret, evT, encs, c_js, r_map_some, e_need_t]
  all_goals rfl
theorem e_laws_toSecretS_l3 (n : Nat) {R1} {a : List Secret} {R2} {out : List Secret} (i : Int) [H1 : EncL cSecret R1 a] [H2 : EncL cSecretO R2 out] : LP T (n + 5) 47 3 (frm [(0, .imm 3 R1), (3, .sl 0), (4, .i .i64 i)]) [some (Ent.lst 3 R2)] =
    (run (laws_toSecretS_l3 a) (out, i)).map (fun (zr : (List Secret)) => (XE.exit 0, frm [(3, .sl 0)], [some (Ent.lst 3 (zr.map cSecretO))])) := by
  obtain ⟨rfl⟩ := H1
  obtain ⟨rfl⟩ := H2
  rw [LP_eq]
  simp -dsimp only [↓evA, evB, lpG_eq, Tryz.func47, Tryz.f47, a47, TP, Nat.reduceAdd, Nat.reduceMul, Nat.reduceBEq, Nat.reduceLeDiff, Nat.reduceLT]
  refine run_map (fun (zs : (List Secret) × Int) => (frm [(0, .imm 3 (a.map cSecret)), (3, .sl 0), (4, .i .i64 zs.2)], [some (Ent.lst 3 (zs.1.map cSecretO))])) (fun (zr : (List Secret)) => (XE.exit 0, frm [(3, .sl 0)], [some (Ent.lst 3 (zr.map cSecretO))])) ?_ (out, i)
  rintro ⟨out, i⟩
  simp -dsimp +contextual only [↓evA, evB, evT, tys, encs, Nat.reduceAdd, Nat.reduceMul, Nat.reduceBEq, Nat.reduceLeDiff, Nat.reduceLT, TP, orc_p, orc_l, e_laws_toSecret]
  try simp only [laws_toSecretS_l3, evT, encs, c_js, r_map_some, e_need_t]
  all_goals rfl
theorem e_laws_toSecretS (n : Nat) {R1} {a : List Secret} [H1 : EncL cSecret R1 a] : CP T (n + 6) 47 [.imm 3 R1] = (laws_toSecretS a).map fun r => .own 3 (r.map cSecretO) := by
  obtain ⟨rfl⟩ := H1
  rw [CP_eq]
  simp -dsimp +contextual only [↓evA, evB, evT, tys, encs, Nat.reduceAdd, Nat.reduceMul, Nat.reduceBEq, Nat.reduceLeDiff, Nat.reduceLT, Tryz.func47, Tryz.f47, a47, TP, orc_p, orc_l, e_laws_toSecretS_l3]
  try simp only [laws_toSecretS, evT, encs, c_js, r_map_some, e_need_t]
  all_goals rfl
theorem e_laws_toSlot (n : Nat) (axId : Int) (axSize : Int) (axThing : Int) : CP T (n + 1) 140 [.agg [.i .i64 axId, .i .i64 axSize, .i .i64 axThing]] = (laws_toSlot (⟨axId, axSize, axThing⟩ : Slot)).map fun r => .agg (cSlot r) := by
  rw [CP_eq]
  simp -dsimp +contextual only [↓evA, evB, evT, tys, encs, Nat.reduceAdd, Nat.reduceMul, Nat.reduceBEq, Nat.reduceLeDiff, Nat.reduceLT, Tryz.func140, Tryz.f140, a140, TP, orc_p, orc_l]
  try simp only [laws_toSlot, evT, encs, c_js, r_map_some, e_need_t]
  all_goals rfl
theorem e_laws_toSlotS_l3 (n : Nat) {R1} {a : List Slot} {R2} {out : List Slot} (i : Int) [H1 : EncL cSlot R1 a] [H2 : EncL cSlot R2 out] : LP T (n + 2) 48 3 (frm [(0, .imm 3 R1), (3, .sl 0), (4, .i .i64 i)]) [some (Ent.lst 3 R2)] =
    (run (laws_toSlotS_l3 a) (out, i)).map (fun (zr : (List Slot)) => (XE.exit 0, frm [(3, .sl 0)], [some (Ent.lst 3 (zr.map cSlot))])) := by
  obtain ⟨rfl⟩ := H1
  obtain ⟨rfl⟩ := H2
  rw [LP_eq]
  simp -dsimp only [↓evA, evB, lpG_eq, Tryz.func48, Tryz.f48, a48, TP, Nat.reduceAdd, Nat.reduceMul, Nat.reduceBEq, Nat.reduceLeDiff, Nat.reduceLT]
  refine run_map (fun (zs : (List Slot) × Int) => (frm [(0, .imm 3 (a.map cSlot)), (3, .sl 0), (4, .i .i64 zs.2)], [some (Ent.lst 3 (zs.1.map cSlot))])) (fun (zr : (List Slot)) => (XE.exit 0, frm [(3, .sl 0)], [some (Ent.lst 3 (zr.map cSlot))])) ?_ (out, i)
  rintro ⟨out, i⟩
  simp -dsimp +contextual only [↓evA, evB, evT, tys, encs, Nat.reduceAdd, Nat.reduceMul, Nat.reduceBEq, Nat.reduceLeDiff, Nat.reduceLT, TP, orc_p, orc_l, e_laws_toSlot]
  try simp only [laws_toSlotS_l3, evT, encs, c_js, r_map_some, e_need_t]
  all_goals rfl
theorem e_laws_toSlotS (n : Nat) {R1} {a : List Slot} [H1 : EncL cSlot R1 a] : CP T (n + 3) 48 [.imm 3 R1] = (laws_toSlotS a).map fun r => .own 3 (r.map cSlot) := by
  obtain ⟨rfl⟩ := H1
  rw [CP_eq]
  simp -dsimp +contextual only [↓evA, evB, evT, tys, encs, Nat.reduceAdd, Nat.reduceMul, Nat.reduceBEq, Nat.reduceLeDiff, Nat.reduceLT, Tryz.func48, Tryz.f48, a48, TP, orc_p, orc_l, e_laws_toSlotS_l3]
  try simp only [laws_toSlotS, evT, encs, c_js, r_map_some, e_need_t]
  all_goals rfl
theorem e_laws_toClaim (n : Nat) (axId : Int) (axWho : Int) (axThing : Int) (axAt : Int) (axState : Int) : CP T (n + 1) 141 [.agg [.i .i64 axId, .i .i64 axWho, .i .i64 axThing, .i .i64 axAt, .i .i64 axState]] = (laws_toClaim (⟨axId, axWho, axThing, axAt, axState⟩ : Claim)).map fun r => .agg (cClaim r) := by
  rw [CP_eq]
  simp -dsimp +contextual only [↓evA, evB, evT, tys, encs, Nat.reduceAdd, Nat.reduceMul, Nat.reduceBEq, Nat.reduceLeDiff, Nat.reduceLT, Tryz.func141, Tryz.f141, a141, TP, orc_p, orc_l]
  try simp only [laws_toClaim, evT, encs, c_js, r_map_some, e_need_t]
  all_goals rfl
theorem e_laws_toClaimS_l3 (n : Nat) {R1} {a : List Claim} {R2} {out : List Claim} (i : Int) [H1 : EncL cClaim R1 a] [H2 : EncL cClaim R2 out] : LP T (n + 2) 49 3 (frm [(0, .imm 5 R1), (3, .sl 0), (4, .i .i64 i)]) [some (Ent.lst 5 R2)] =
    (run (laws_toClaimS_l3 a) (out, i)).map (fun (zr : (List Claim)) => (XE.exit 0, frm [(3, .sl 0)], [some (Ent.lst 5 (zr.map cClaim))])) := by
  obtain ⟨rfl⟩ := H1
  obtain ⟨rfl⟩ := H2
  rw [LP_eq]
  simp -dsimp only [↓evA, evB, lpG_eq, Tryz.func49, Tryz.f49, a49, TP, Nat.reduceAdd, Nat.reduceMul, Nat.reduceBEq, Nat.reduceLeDiff, Nat.reduceLT]
  refine run_map (fun (zs : (List Claim) × Int) => (frm [(0, .imm 5 (a.map cClaim)), (3, .sl 0), (4, .i .i64 zs.2)], [some (Ent.lst 5 (zs.1.map cClaim))])) (fun (zr : (List Claim)) => (XE.exit 0, frm [(3, .sl 0)], [some (Ent.lst 5 (zr.map cClaim))])) ?_ (out, i)
  rintro ⟨out, i⟩
  simp -dsimp +contextual only [↓evA, evB, evT, tys, encs, Nat.reduceAdd, Nat.reduceMul, Nat.reduceBEq, Nat.reduceLeDiff, Nat.reduceLT, TP, orc_p, orc_l, e_laws_toClaim]
  try simp only [laws_toClaimS_l3, evT, encs, c_js, r_map_some, e_need_t]
  all_goals rfl
theorem e_laws_toClaimS (n : Nat) {R1} {a : List Claim} [H1 : EncL cClaim R1 a] : CP T (n + 3) 49 [.imm 5 R1] = (laws_toClaimS a).map fun r => .own 5 (r.map cClaim) := by
  obtain ⟨rfl⟩ := H1
  rw [CP_eq]
  simp -dsimp +contextual only [↓evA, evB, evT, tys, encs, Nat.reduceAdd, Nat.reduceMul, Nat.reduceBEq, Nat.reduceLeDiff, Nat.reduceLT, Tryz.func49, Tryz.f49, a49, TP, orc_p, orc_l, e_laws_toClaimS_l3]
  try simp only [laws_toClaimS, evT, encs, c_js, r_map_some, e_need_t]
  all_goals rfl
theorem e_laws_toTrial (n : Nat) (axClaim : Int) (axAsked : Int) (axRight : Int) (axWrong : Int) : CP T (n + 1) 142 [.agg [.i .i64 axClaim, .i .i64 axAsked, .i .i64 axRight, .i .i64 axWrong]] = (laws_toTrial (⟨axClaim, axAsked, axRight, axWrong⟩ : Trial)).map fun r => .agg (cTrial r) := by
  rw [CP_eq]
  simp -dsimp +contextual only [↓evA, evB, evT, tys, encs, Nat.reduceAdd, Nat.reduceMul, Nat.reduceBEq, Nat.reduceLeDiff, Nat.reduceLT, Tryz.func142, Tryz.f142, a142, TP, orc_p, orc_l]
  try simp only [laws_toTrial, evT, encs, c_js, r_map_some, e_need_t]
  all_goals rfl
theorem e_laws_toTrialS_l3 (n : Nat) {R1} {a : List Trial} {R2} {out : List Trial} (i : Int) [H1 : EncL cTrial R1 a] [H2 : EncL cTrial R2 out] : LP T (n + 2) 50 3 (frm [(0, .imm 4 R1), (3, .sl 0), (4, .i .i64 i)]) [some (Ent.lst 4 R2)] =
    (run (laws_toTrialS_l3 a) (out, i)).map (fun (zr : (List Trial)) => (XE.exit 0, frm [(3, .sl 0)], [some (Ent.lst 4 (zr.map cTrial))])) := by
  obtain ⟨rfl⟩ := H1
  obtain ⟨rfl⟩ := H2
  rw [LP_eq]
  simp -dsimp only [↓evA, evB, lpG_eq, Tryz.func50, Tryz.f50, a50, TP, Nat.reduceAdd, Nat.reduceMul, Nat.reduceBEq, Nat.reduceLeDiff, Nat.reduceLT]
  refine run_map (fun (zs : (List Trial) × Int) => (frm [(0, .imm 4 (a.map cTrial)), (3, .sl 0), (4, .i .i64 zs.2)], [some (Ent.lst 4 (zs.1.map cTrial))])) (fun (zr : (List Trial)) => (XE.exit 0, frm [(3, .sl 0)], [some (Ent.lst 4 (zr.map cTrial))])) ?_ (out, i)
  rintro ⟨out, i⟩
  simp -dsimp +contextual only [↓evA, evB, evT, tys, encs, Nat.reduceAdd, Nat.reduceMul, Nat.reduceBEq, Nat.reduceLeDiff, Nat.reduceLT, TP, orc_p, orc_l, e_laws_toTrial]
  try simp only [laws_toTrialS_l3, evT, encs, c_js, r_map_some, e_need_t]
  all_goals rfl
theorem e_laws_toTrialS (n : Nat) {R1} {a : List Trial} [H1 : EncL cTrial R1 a] : CP T (n + 3) 50 [.imm 4 R1] = (laws_toTrialS a).map fun r => .own 4 (r.map cTrial) := by
  obtain ⟨rfl⟩ := H1
  rw [CP_eq]
  simp -dsimp +contextual only [↓evA, evB, evT, tys, encs, Nat.reduceAdd, Nat.reduceMul, Nat.reduceBEq, Nat.reduceLeDiff, Nat.reduceLT, Tryz.func50, Tryz.f50, a50, TP, orc_p, orc_l, e_laws_toTrialS_l3]
  try simp only [laws_toTrialS, evT, encs, c_js, r_map_some, e_need_t]
  all_goals rfl
theorem e_laws_toHand (n : Nat) (axThing : Int) (axHolder : Int) (axWho : Int) (axAt : Int) (axSeal : Int) : CP T (n + 1) 143 [.agg [.i .i64 axThing, .i .i64 axHolder, .i .i64 axWho, .i .i64 axAt, .i .i64 axSeal]] = (laws_toHand (⟨axThing, axHolder, axWho, axAt, axSeal⟩ : Hand)).map fun r => .agg (cHand r) := by
  rw [CP_eq]
  simp -dsimp +contextual only [↓evA, evB, evT, tys, encs, Nat.reduceAdd, Nat.reduceMul, Nat.reduceBEq, Nat.reduceLeDiff, Nat.reduceLT, Tryz.func143, Tryz.f143, a143, TP, orc_p, orc_l]
  try simp only [laws_toHand, evT, encs, c_js, r_map_some, e_need_t]
  all_goals rfl
theorem e_laws_toHandS_l3 (n : Nat) {R1} {a : List Hand} {R2} {out : List Hand} (i : Int) [H1 : EncL cHand R1 a] [H2 : EncL cHand R2 out] : LP T (n + 2) 51 3 (frm [(0, .imm 5 R1), (3, .sl 0), (4, .i .i64 i)]) [some (Ent.lst 5 R2)] =
    (run (laws_toHandS_l3 a) (out, i)).map (fun (zr : (List Hand)) => (XE.exit 0, frm [(3, .sl 0)], [some (Ent.lst 5 (zr.map cHand))])) := by
  obtain ⟨rfl⟩ := H1
  obtain ⟨rfl⟩ := H2
  rw [LP_eq]
  simp -dsimp only [↓evA, evB, lpG_eq, Tryz.func51, Tryz.f51, a51, TP, Nat.reduceAdd, Nat.reduceMul, Nat.reduceBEq, Nat.reduceLeDiff, Nat.reduceLT]
  refine run_map (fun (zs : (List Hand) × Int) => (frm [(0, .imm 5 (a.map cHand)), (3, .sl 0), (4, .i .i64 zs.2)], [some (Ent.lst 5 (zs.1.map cHand))])) (fun (zr : (List Hand)) => (XE.exit 0, frm [(3, .sl 0)], [some (Ent.lst 5 (zr.map cHand))])) ?_ (out, i)
  rintro ⟨out, i⟩
  simp -dsimp +contextual only [↓evA, evB, evT, tys, encs, Nat.reduceAdd, Nat.reduceMul, Nat.reduceBEq, Nat.reduceLeDiff, Nat.reduceLT, TP, orc_p, orc_l, e_laws_toHand]
  try simp only [laws_toHandS_l3, evT, encs, c_js, r_map_some, e_need_t]
  all_goals rfl
theorem e_laws_toHandS (n : Nat) {R1} {a : List Hand} [H1 : EncL cHand R1 a] : CP T (n + 3) 51 [.imm 5 R1] = (laws_toHandS a).map fun r => .own 5 (r.map cHand) := by
  obtain ⟨rfl⟩ := H1
  rw [CP_eq]
  simp -dsimp +contextual only [↓evA, evB, evT, tys, encs, Nat.reduceAdd, Nat.reduceMul, Nat.reduceBEq, Nat.reduceLeDiff, Nat.reduceLT, Tryz.func51, Tryz.f51, a51, TP, orc_p, orc_l, e_laws_toHandS_l3]
  try simp only [laws_toHandS, evT, encs, c_js, r_map_some, e_need_t]
  all_goals rfl
theorem e_laws_toEntry (n : Nat) (axFrom : Int) (axTo : Int) (axCents : Int) (axAt : Int) : CP T (n + 1) 144 [.agg [.i .i64 axFrom, .i .i64 axTo, .i .i64 axCents, .i .i64 axAt]] = (laws_toEntry (⟨axFrom, axTo, axCents, axAt⟩ : Entry)).map fun r => .agg (cEntry r) := by
  rw [CP_eq]
  simp -dsimp +contextual only [↓evA, evB, evT, tys, encs, Nat.reduceAdd, Nat.reduceMul, Nat.reduceBEq, Nat.reduceLeDiff, Nat.reduceLT, Tryz.func144, Tryz.f144, a144, TP, orc_p, orc_l]
  try simp only [laws_toEntry, evT, encs, c_js, r_map_some, e_need_t]
  all_goals rfl
theorem e_laws_toEntryS_l3 (n : Nat) {R1} {a : List Entry} {R2} {out : List Entry} (i : Int) [H1 : EncL cEntry R1 a] [H2 : EncL cEntry R2 out] : LP T (n + 2) 52 3 (frm [(0, .imm 4 R1), (3, .sl 0), (4, .i .i64 i)]) [some (Ent.lst 4 R2)] =
    (run (laws_toEntryS_l3 a) (out, i)).map (fun (zr : (List Entry)) => (XE.exit 0, frm [(3, .sl 0)], [some (Ent.lst 4 (zr.map cEntry))])) := by
  obtain ⟨rfl⟩ := H1
  obtain ⟨rfl⟩ := H2
  rw [LP_eq]
  simp -dsimp only [↓evA, evB, lpG_eq, Tryz.func52, Tryz.f52, a52, TP, Nat.reduceAdd, Nat.reduceMul, Nat.reduceBEq, Nat.reduceLeDiff, Nat.reduceLT]
  refine run_map (fun (zs : (List Entry) × Int) => (frm [(0, .imm 4 (a.map cEntry)), (3, .sl 0), (4, .i .i64 zs.2)], [some (Ent.lst 4 (zs.1.map cEntry))])) (fun (zr : (List Entry)) => (XE.exit 0, frm [(3, .sl 0)], [some (Ent.lst 4 (zr.map cEntry))])) ?_ (out, i)
  rintro ⟨out, i⟩
  simp -dsimp +contextual only [↓evA, evB, evT, tys, encs, Nat.reduceAdd, Nat.reduceMul, Nat.reduceBEq, Nat.reduceLeDiff, Nat.reduceLT, TP, orc_p, orc_l, e_laws_toEntry]
  try simp only [laws_toEntryS_l3, evT, encs, c_js, r_map_some, e_need_t]
  all_goals rfl
theorem e_laws_toEntryS (n : Nat) {R1} {a : List Entry} [H1 : EncL cEntry R1 a] : CP T (n + 3) 52 [.imm 4 R1] = (laws_toEntryS a).map fun r => .own 4 (r.map cEntry) := by
  obtain ⟨rfl⟩ := H1
  rw [CP_eq]
  simp -dsimp +contextual only [↓evA, evB, evT, tys, encs, Nat.reduceAdd, Nat.reduceMul, Nat.reduceBEq, Nat.reduceLeDiff, Nat.reduceLT, Tryz.func52, Tryz.f52, a52, TP, orc_p, orc_l, e_laws_toEntryS_l3]
  try simp only [laws_toEntryS, evT, encs, c_js, r_map_some, e_need_t]
  all_goals rfl
theorem e_laws_toHouse (n : Nat) (axNo : Int) {R1} {axFinds : List Find} {R2} {axSecrets : List Secret} {R3} {axSlots : List Slot} {R4} {axClaims : List Claim} {R5} {axTrials : List Trial} {R6} {axChain : List Hand} {R7} {axBook : List Entry} (axNow : Int) [H1 : EncL cFind R1 axFinds] [H2 : EncL cSecret R2 axSecrets] [H3 : EncL cSlot R3 axSlots] [H4 : EncL cClaim R4 axClaims] [H5 : EncL cTrial R5 axTrials] [H6 : EncL cHand R6 axChain] [H7 : EncL cEntry R7 axBook] : CP T (n + 7) 12 [.agg [.i .i64 axNo, .imm 8 R1, .imm 3 R2, .imm 3 R3, .imm 5 R4, .imm 4 R5, .imm 5 R6, .imm 4 R7, .i .i64 axNow]] = (laws_toHouse (⟨axNo, axFinds, axSecrets, axSlots, axClaims, axTrials, axChain, axBook, axNow⟩ : House)).map fun r => .agg (cHouseO r) := by
  obtain ⟨rfl⟩ := H1
  obtain ⟨rfl⟩ := H2
  obtain ⟨rfl⟩ := H3
  obtain ⟨rfl⟩ := H4
  obtain ⟨rfl⟩ := H5
  obtain ⟨rfl⟩ := H6
  obtain ⟨rfl⟩ := H7
  rw [CP_eq]
  simp -dsimp +contextual only [↓evA, evB, evT, tys, encs, Nat.reduceAdd, Nat.reduceMul, Nat.reduceBEq, Nat.reduceLeDiff, Nat.reduceLT, Tryz.func12, Tryz.f12, a12, TP, orc_p, orc_l, e_laws_toFindS, e_laws_toSecretS, e_laws_toSlotS, e_laws_toClaimS, e_laws_toTrialS, e_laws_toHandS, e_laws_toEntryS]
  try simp only [laws_toHouse, evT, encs, c_js, r_map_some, e_need_t]
  all_goals rfl
theorem e_spec_l1In (n : Nat) (x : Int) (least : Int) (most : Int) : CP T (n + 1) 66 [.i .i64 x, .i .i64 least, .i .i64 most] = (spec_l1In x least most).map fun r => .b r := by
  rw [CP_eq]
  simp -dsimp +contextual only [↓evA, evB, evT, tys, encs, Nat.reduceAdd, Nat.reduceMul, Nat.reduceBEq, Nat.reduceLeDiff, Nat.reduceLT, Tryz.func66, Tryz.f66, a66, TP, orc_p, orc_l]
  try simp only [spec_l1In, evT, encs, c_js, r_map_some, e_need_t]
  all_goals rfl
theorem e_spec_IsThing (n : Nat) (xxId : Int) (xxKind : Int) (xxColour : Int) (xxSize : Int) (xxWorth : Int) : CP T (n + 2) 203 [.agg [.i .i64 xxId, .i .i64 xxKind, .i .i64 xxColour, .i .i64 xxSize, .i .i64 xxWorth]] = (spec_IsThing (⟨xxId, xxKind, xxColour, xxSize, xxWorth⟩ : Thing)).map fun r => .b r := by
  rw [CP_eq]
  simp -dsimp +contextual only [↓evA, evB, evT, tys, encs, Nat.reduceAdd, Nat.reduceMul, Nat.reduceBEq, Nat.reduceLeDiff, Nat.reduceLT, Tryz.func203, Tryz.f203, a203, TP, orc_p, orc_l, e_spec_l1In]
  try simp only [spec_IsThing, evT, encs, c_js, r_map_some, e_need_t]
  all_goals rfl
theorem e_spec_IsFind (n : Nat) (fxThingxId : Int) (fxThingxKind : Int) (fxThingxColour : Int) (fxThingxSize : Int) (fxThingxWorth : Int) (fxPlace : Int) (fxAt : Int) (fxFinder : Int) : CP T (n + 3) 214 [.agg [.i .i64 fxThingxId, .i .i64 fxThingxKind, .i .i64 fxThingxColour, .i .i64 fxThingxSize, .i .i64 fxThingxWorth, .i .i64 fxPlace, .i .i64 fxAt, .i .i64 fxFinder]] = (spec_IsFind (⟨⟨fxThingxId, fxThingxKind, fxThingxColour, fxThingxSize, fxThingxWorth⟩, fxPlace, fxAt, fxFinder⟩ : Find)).map fun r => .b r := by
  rw [CP_eq]
  simp -dsimp +contextual only [↓evA, evB, evT, tys, encs, Nat.reduceAdd, Nat.reduceMul, Nat.reduceBEq, Nat.reduceLeDiff, Nat.reduceLT, Tryz.func214, Tryz.f214, a214, TP, orc_p, orc_l, e_spec_IsThing, e_spec_l1In]
  try simp only [spec_IsFind, evT, encs, c_js, r_map_some, e_need_t]
  all_goals rfl
theorem e_spec_AreFinds_l2 (n : Nat) {R1} {l : List Find} (i : Int) [H1 : EncL cFind R1 l] : LP T (n + 4) 124 2 (frm [(0, .imm 8 R1), (3, .i .i64 i)]) [] =
    lmap (run (spec_AreFinds_l2 l) i) (fun (zr : Bool) => (XE.ret, frm [(2, .b zr)], [])) (fun (zr : Unit) => (XE.exit 0, frm [(0, .imm 8 (l.map cFind))], [])) := by
  obtain ⟨rfl⟩ := H1
  rw [LP_eq]
  simp -dsimp only [↓evA, evB, lpG_eq, Tryz.func124, Tryz.f124, a124, TP, Nat.reduceAdd, Nat.reduceMul, Nat.reduceBEq, Nat.reduceLeDiff, Nat.reduceLT]
  refine run_map (fun (zs : Int) => (frm [(0, .imm 8 (l.map cFind)), (3, .i .i64 zs)], [])) (evO (fun (zr : Bool) => (XE.ret, frm [(2, .b zr)], [])) (fun (zr : Unit) => (XE.exit 0, frm [(0, .imm 8 (l.map cFind))], []))) ?_ i
  intro i
  simp -dsimp +contextual only [↓evA, evB, evT, tys, encs, Nat.reduceAdd, Nat.reduceMul, Nat.reduceBEq, Nat.reduceLeDiff, Nat.reduceLT, TP, orc_p, orc_l, e_spec_IsFind]
  try simp only [spec_AreFinds_l2, evT, encs, c_js, r_map_some, e_need_t]
  all_goals rfl
theorem e_spec_AreFinds (n : Nat) {R1} {l : List Find} [H1 : EncL cFind R1 l] : CP T (n + 5) 124 [.imm 8 R1] = (spec_AreFinds l).map fun r => .b r := by
  obtain ⟨rfl⟩ := H1
  rw [CP_eq]
  simp -dsimp +contextual only [↓evA, evB, evT, tys, encs, Nat.reduceAdd, Nat.reduceMul, Nat.reduceBEq, Nat.reduceLeDiff, Nat.reduceLT, Tryz.func124, Tryz.f124, a124, TP, orc_p, orc_l, e_spec_AreFinds_l2]
  try simp only [spec_AreFinds, evT, encs, c_js, r_map_some, e_need_t]
  all_goals rfl
theorem e_spec_AreMarks_l2 (n : Nat) {R1} {l : List Mark} (i : Int) [H1 : EncL cMark R1 l] : LP T (n + 2) 183 2 (frm [(0, .imm 2 R1), (3, .i .i64 i)]) [] =
    lmap (run (spec_AreMarks_l2 l) i) (fun (zr : Bool) => (XE.ret, frm [(2, .b zr)], [])) (fun (zr : Unit) => (XE.exit 0, frm [(0, .imm 2 (l.map cMark))], [])) := by
  obtain ⟨rfl⟩ := H1
  rw [LP_eq]
  simp -dsimp only [↓evA, evB, lpG_eq, Tryz.func183, Tryz.f183, a183, TP, Nat.reduceAdd, Nat.reduceMul, Nat.reduceBEq, Nat.reduceLeDiff, Nat.reduceLT]
  refine run_map (fun (zs : Int) => (frm [(0, .imm 2 (l.map cMark)), (3, .i .i64 zs)], [])) (evO (fun (zr : Bool) => (XE.ret, frm [(2, .b zr)], [])) (fun (zr : Unit) => (XE.exit 0, frm [(0, .imm 2 (l.map cMark))], []))) ?_ i
  intro i
  simp -dsimp +contextual only [↓evA, evB, evT, tys, encs, Nat.reduceAdd, Nat.reduceMul, Nat.reduceBEq, Nat.reduceLeDiff, Nat.reduceLT, TP, orc_p, orc_l, e_spec_l1In]
  try simp only [spec_AreMarks_l2, evT, encs, c_js, r_map_some, e_need_t]
  all_goals rfl
theorem e_spec_AreMarks (n : Nat) {R1} {l : List Mark} [H1 : EncL cMark R1 l] : CP T (n + 3) 183 [.imm 2 R1] = (spec_AreMarks l).map fun r => .b r := by
  obtain ⟨rfl⟩ := H1
  rw [CP_eq]
  simp -dsimp +contextual only [↓evA, evB, evT, tys, encs, Nat.reduceAdd, Nat.reduceMul, Nat.reduceBEq, Nat.reduceLeDiff, Nat.reduceLT, Tryz.func183, Tryz.f183, a183, TP, orc_p, orc_l, e_spec_AreMarks_l2]
  try simp only [spec_AreMarks, evT, encs, c_js, r_map_some, e_need_t]
  all_goals rfl
theorem e_spec_AreSecrets_l2 (n : Nat) {R1} {l : List Secret} (t3 : Int) [H1 : EncL cSecret R1 l] : LP T (n + 4) 125 2 (frm [(0, .imm 3 R1), (3, .i .i64 t3)]) [] =
    lmap (run (spec_AreSecrets_l2 l) t3) (fun (zr : Bool) => (XE.ret, frm [(2, .b zr)], [])) (fun (zr : Unit) => (XE.exit 0, frm [(0, .imm 3 (l.map cSecret))], [])) := by
  obtain ⟨rfl⟩ := H1
  rw [LP_eq]
  simp -dsimp only [↓evA, evB, lpG_eq, Tryz.func125, Tryz.f125, a125, TP, Nat.reduceAdd, Nat.reduceMul, Nat.reduceBEq, Nat.reduceLeDiff, Nat.reduceLT]
  refine run_map (fun (zs : Int) => (frm [(0, .imm 3 (l.map cSecret)), (3, .i .i64 zs)], [])) (evO (fun (zr : Bool) => (XE.ret, frm [(2, .b zr)], [])) (fun (zr : Unit) => (XE.exit 0, frm [(0, .imm 3 (l.map cSecret))], []))) ?_ t3
  intro t3
  simp -dsimp +contextual only [↓evA, evB, evT, tys, encs, Nat.reduceAdd, Nat.reduceMul, Nat.reduceBEq, Nat.reduceLeDiff, Nat.reduceLT, TP, orc_p, orc_l, e_spec_l1In, e_spec_AreMarks]
  try simp only [spec_AreSecrets_l2, evT, encs, c_js, r_map_some, e_need_t]
  all_goals rfl
theorem e_spec_AreSecrets (n : Nat) {R1} {l : List Secret} [H1 : EncL cSecret R1 l] : CP T (n + 5) 125 [.imm 3 R1] = (spec_AreSecrets l).map fun r => .b r := by
  obtain ⟨rfl⟩ := H1
  rw [CP_eq]
  simp -dsimp +contextual only [↓evA, evB, evT, tys, encs, Nat.reduceAdd, Nat.reduceMul, Nat.reduceBEq, Nat.reduceLeDiff, Nat.reduceLT, Tryz.func125, Tryz.f125, a125, TP, orc_p, orc_l, e_spec_AreSecrets_l2]
  try simp only [spec_AreSecrets, evT, encs, c_js, r_map_some, e_need_t]
  all_goals rfl
theorem e_spec_AreSlots_l7 (n : Nat) {R1} {l : List Slot} (t3 : Int) (t4 : Int) [H1 : EncL cSlot R1 l] : LP T (n + 1) 126 7 (frm [(0, .imm 3 R1), (3, .i .i64 t3), (4, .i .i64 t4)]) [] =
    lmap (run (spec_AreSlots_l7 l t3) t4) (fun (zr : Bool) => (XE.ret, frm [(2, .b zr)], [])) (fun (zr : Unit) => (XE.exit 2, frm [(0, .imm 3 (l.map cSlot)), (3, .i .i64 t3)], [])) := by
  obtain ⟨rfl⟩ := H1
  rw [LP_eq]
  simp -dsimp only [↓evA, evB, lpG_eq, Tryz.func126, Tryz.f126, a126, TP, Nat.reduceAdd, Nat.reduceMul, Nat.reduceBEq, Nat.reduceLeDiff, Nat.reduceLT]
  refine run_map (fun (zs : Int) => (frm [(0, .imm 3 (l.map cSlot)), (3, .i .i64 t3), (4, .i .i64 zs)], [])) (evO (fun (zr : Bool) => (XE.ret, frm [(2, .b zr)], [])) (fun (zr : Unit) => (XE.exit 2, frm [(0, .imm 3 (l.map cSlot)), (3, .i .i64 t3)], []))) ?_ t4
  intro t4
  simp -dsimp +contextual only [↓evA, evB, evT, tys, encs, Nat.reduceAdd, Nat.reduceMul, Nat.reduceBEq, Nat.reduceLeDiff, Nat.reduceLT, TP, orc_p, orc_l]
  try simp only [spec_AreSlots_l7, evT, encs, c_js, r_map_some, e_need_t]
  all_goals rfl
theorem e_spec_AreSlots_l2 (n : Nat) {R1} {l : List Slot} (t3 : Int) [H1 : EncL cSlot R1 l] : LP T (n + 2) 126 2 (frm [(0, .imm 3 R1), (3, .i .i64 t3)]) [] =
    lmap (run (spec_AreSlots_l2 l) t3) (fun (zr : Bool) => (XE.ret, frm [(2, .b zr)], [])) (fun (zr : Unit) => (XE.exit 0, frm [(0, .imm 3 (l.map cSlot))], [])) := by
  obtain ⟨rfl⟩ := H1
  rw [LP_eq]
  simp -dsimp only [↓evA, evB, lpG_eq, Tryz.func126, Tryz.f126, a126, TP, Nat.reduceAdd, Nat.reduceMul, Nat.reduceBEq, Nat.reduceLeDiff, Nat.reduceLT]
  refine run_map (fun (zs : Int) => (frm [(0, .imm 3 (l.map cSlot)), (3, .i .i64 zs)], [])) (evO (fun (zr : Bool) => (XE.ret, frm [(2, .b zr)], [])) (fun (zr : Unit) => (XE.exit 0, frm [(0, .imm 3 (l.map cSlot))], []))) ?_ t3
  intro t3
  simp -dsimp +contextual only [↓evA, evB, evT, tys, encs, Nat.reduceAdd, Nat.reduceMul, Nat.reduceBEq, Nat.reduceLeDiff, Nat.reduceLT, TP, orc_p, orc_l, e_spec_l1In, e_spec_AreSlots_l7]
  try simp only [spec_AreSlots_l2, evT, encs, c_js, r_map_some, e_need_t]
  all_goals rfl
theorem e_spec_AreSlots (n : Nat) {R1} {l : List Slot} [H1 : EncL cSlot R1 l] : CP T (n + 3) 126 [.imm 3 R1] = (spec_AreSlots l).map fun r => .b r := by
  obtain ⟨rfl⟩ := H1
  rw [CP_eq]
  simp -dsimp +contextual only [↓evA, evB, evT, tys, encs, Nat.reduceAdd, Nat.reduceMul, Nat.reduceBEq, Nat.reduceLeDiff, Nat.reduceLT, Tryz.func126, Tryz.f126, a126, TP, orc_p, orc_l, e_spec_AreSlots_l2]
  try simp only [spec_AreSlots, evT, encs, c_js, r_map_some, e_need_t]
  all_goals rfl
theorem e_spec_AreClaims_l8 (n : Nat) {R1} {l : List Claim} (t3 : Int) (t4xId : Int) (t4xWho : Int) (t4xThing : Int) (t4xAt : Int) (t4xState : Int) (t5 : Int) [H1 : EncL cClaim R1 l] : LP T (n + 1) 127 8 (frm [(0, .imm 5 R1), (3, .i .i64 t3), (4, .ptr 0 0 0), (5, .i .i64 t5)]) [some (Ent.box [.i .i64 t4xId, .i .i64 t4xWho, .i .i64 t4xThing, .i .i64 t4xAt, .i .i64 t4xState])] =
    lmap (run (spec_AreClaims_l8 l t3 (⟨t4xId, t4xWho, t4xThing, t4xAt, t4xState⟩ : Claim)) t5) (fun (zr : Bool) => (XE.ret, frm [(2, .b zr)], [])) (fun (zr : Unit) => (XE.exit 2, frm [(0, .imm 5 (l.map cClaim)), (3, .i .i64 t3)], [])) := by
  obtain ⟨rfl⟩ := H1
  rw [LP_eq]
  simp -dsimp only [↓evA, evB, lpG_eq, Tryz.func127, Tryz.f127, a127, TP, Nat.reduceAdd, Nat.reduceMul, Nat.reduceBEq, Nat.reduceLeDiff, Nat.reduceLT]
  refine run_map (fun (zs : Int) => (frm [(0, .imm 5 (l.map cClaim)), (3, .i .i64 t3), (4, .ptr 0 0 0), (5, .i .i64 zs)], [some (Ent.box [.i .i64 (⟨t4xId, t4xWho, t4xThing, t4xAt, t4xState⟩ : Claim).Id, .i .i64 (⟨t4xId, t4xWho, t4xThing, t4xAt, t4xState⟩ : Claim).Who, .i .i64 (⟨t4xId, t4xWho, t4xThing, t4xAt, t4xState⟩ : Claim).Thing, .i .i64 (⟨t4xId, t4xWho, t4xThing, t4xAt, t4xState⟩ : Claim).At, .i .i64 (⟨t4xId, t4xWho, t4xThing, t4xAt, t4xState⟩ : Claim).State])])) (evO (fun (zr : Bool) => (XE.ret, frm [(2, .b zr)], [])) (fun (zr : Unit) => (XE.exit 2, frm [(0, .imm 5 (l.map cClaim)), (3, .i .i64 t3)], []))) ?_ t5
  intro t5
  simp -dsimp +contextual only [↓evA, evB, evT, tys, encs, Nat.reduceAdd, Nat.reduceMul, Nat.reduceBEq, Nat.reduceLeDiff, Nat.reduceLT, TP, orc_p, orc_l]
  try simp only [spec_AreClaims_l8, evT, encs, c_js, r_map_some, e_need_t]
  all_goals rfl
theorem e_spec_AreClaims_l2 (n : Nat) {R1} {l : List Claim} (t3 : Int) [H1 : EncL cClaim R1 l] : LP T (n + 2) 127 2 (frm [(0, .imm 5 R1), (3, .i .i64 t3)]) [] =
    lmap (run (spec_AreClaims_l2 l) t3) (fun (zr : Bool) => (XE.ret, frm [(2, .b zr)], [])) (fun (zr : Unit) => (XE.exit 0, frm [(0, .imm 5 (l.map cClaim))], [])) := by
  obtain ⟨rfl⟩ := H1
  rw [LP_eq]
  simp -dsimp only [↓evA, evB, lpG_eq, Tryz.func127, Tryz.f127, a127, TP, Nat.reduceAdd, Nat.reduceMul, Nat.reduceBEq, Nat.reduceLeDiff, Nat.reduceLT]
  refine run_map (fun (zs : Int) => (frm [(0, .imm 5 (l.map cClaim)), (3, .i .i64 zs)], [])) (evO (fun (zr : Bool) => (XE.ret, frm [(2, .b zr)], [])) (fun (zr : Unit) => (XE.exit 0, frm [(0, .imm 5 (l.map cClaim))], []))) ?_ t3
  intro t3
  simp -dsimp +contextual only [↓evA, evB, evT, tys, encs, Nat.reduceAdd, Nat.reduceMul, Nat.reduceBEq, Nat.reduceLeDiff, Nat.reduceLT, TP, orc_p, orc_l, e_spec_l1In, e_spec_AreClaims_l8]
  try simp only [spec_AreClaims_l2, evT, encs, c_js, r_map_some, e_need_t]
  all_goals rfl
theorem e_spec_AreClaims (n : Nat) {R1} {l : List Claim} [H1 : EncL cClaim R1 l] : CP T (n + 3) 127 [.imm 5 R1] = (spec_AreClaims l).map fun r => .b r := by
  obtain ⟨rfl⟩ := H1
  rw [CP_eq]
  simp -dsimp +contextual only [↓evA, evB, evT, tys, encs, Nat.reduceAdd, Nat.reduceMul, Nat.reduceBEq, Nat.reduceLeDiff, Nat.reduceLT, Tryz.func127, Tryz.f127, a127, TP, orc_p, orc_l, e_spec_AreClaims_l2]
  try simp only [spec_AreClaims, evT, encs, c_js, r_map_some, e_need_t]
  all_goals rfl
theorem e_spec_Mod (n : Nat) (vn : Int) (m : Int) : CP T (n + 2) 251 [.i .i64 vn, .i .i64 m] = (spec_Mod vn m).map fun r => .i .i64 r := by
  rw [CP_eq]
  simp -dsimp +contextual only [↓evA, evB, evT, tys, encs, Nat.reduceAdd, Nat.reduceMul, Nat.reduceBEq, Nat.reduceLeDiff, Nat.reduceLT, Tryz.func251, Tryz.f251, a251, TP, orc_p, orc_l, e_spec_l1In]
  try simp only [spec_Mod, evT, encs, c_js, r_map_some, e_need_t]
  all_goals rfl
theorem e_spec_Hash_l3 (n : Nat) {R1} {l : List Int} (d : Int) (i : Int) [H1 : EncL c_i64 R1 l] : LP T (n + 3) 239 3 (frm [(0, .imm 1 R1), (3, .i .i64 d), (4, .i .i64 i)]) [] =
    (run (spec_Hash_l3 l) (d, i)).map (fun (zr : Int) => (XE.exit 0, frm [(3, .i .i64 zr)], [])) := by
  obtain ⟨rfl⟩ := H1
  rw [LP_eq]
  simp -dsimp only [↓evA, evB, lpG_eq, Tryz.func239, Tryz.f239, a239, TP, Nat.reduceAdd, Nat.reduceMul, Nat.reduceBEq, Nat.reduceLeDiff, Nat.reduceLT]
  refine run_map (fun (zs : Int × Int) => (frm [(0, .imm 1 (l.map c_i64)), (3, .i .i64 zs.1), (4, .i .i64 zs.2)], [])) (fun (zr : Int) => (XE.exit 0, frm [(3, .i .i64 zr)], [])) ?_ (d, i)
  rintro ⟨d, i⟩
  simp -dsimp +contextual only [↓evA, evB, evT, tys, encs, Nat.reduceAdd, Nat.reduceMul, Nat.reduceBEq, Nat.reduceLeDiff, Nat.reduceLT, TP, orc_p, orc_l, e_spec_Mod]
  try simp only [spec_Hash_l3, evT, encs, c_js, r_map_some, e_need_t]
  all_goals rfl
theorem e_spec_Hash (n : Nat) {R1} {l : List Int} [H1 : EncL c_i64 R1 l] : CP T (n + 4) 239 [.imm 1 R1] = (spec_Hash l).map fun r => .i .i64 r := by
  obtain ⟨rfl⟩ := H1
  rw [CP_eq]
  simp -dsimp +contextual only [↓evA, evB, evT, tys, encs, Nat.reduceAdd, Nat.reduceMul, Nat.reduceBEq, Nat.reduceLeDiff, Nat.reduceLT, Tryz.func239, Tryz.f239, a239, TP, orc_p, orc_l, e_spec_Hash_l3]
  try simp only [spec_Hash, evT, encs, c_js, r_map_some, e_need_t]
  all_goals rfl
theorem e_spec_HandSeal (n : Nat) (before : Int) (xxThing : Int) (xxHolder : Int) (xxWho : Int) (xxAt : Int) (xxSeal : Int) : CP T (n + 5) 209 [.i .i64 before, .agg [.i .i64 xxThing, .i .i64 xxHolder, .i .i64 xxWho, .i .i64 xxAt, .i .i64 xxSeal]] = (spec_HandSeal before (⟨xxThing, xxHolder, xxWho, xxAt, xxSeal⟩ : Hand)).map fun r => .i .i64 r := by
  rw [CP_eq]
  simp -dsimp +contextual only [↓evA, evB, evT, tys, encs, Nat.reduceAdd, Nat.reduceMul, Nat.reduceBEq, Nat.reduceLeDiff, Nat.reduceLT, Tryz.func209, Tryz.f209, a209, TP, orc_p, orc_l, e_spec_Hash]
  try simp only [spec_HandSeal, evT, encs, c_js, r_map_some, e_need_t]
  all_goals rfl
theorem e_spec_l16Last_l3 (n : Nat) {R1} {l : List Hand} (thing : Int) (before : Int) (k : Int) (i : Int) [H1 : EncL cHand R1 l] : LP T (n + 1) 215 3 (frm [(0, .imm 5 R1), (1, .i .i64 thing), (2, .i .i64 before), (7, .i .i64 k), (8, .i .i64 i)]) [] =
    (run (spec_l16Last_l3 l thing before) (k, i)).map (fun (zr : Int) => (XE.exit 0, frm [(7, .i .i64 zr)], [])) := by
  obtain ⟨rfl⟩ := H1
  rw [LP_eq]
  simp -dsimp only [↓evA, evB, lpG_eq, Tryz.func215, Tryz.f215, a215, TP, Nat.reduceAdd, Nat.reduceMul, Nat.reduceBEq, Nat.reduceLeDiff, Nat.reduceLT]
  refine run_map (fun (zs : Int × Int) => (frm [(0, .imm 5 (l.map cHand)), (1, .i .i64 thing), (2, .i .i64 before), (7, .i .i64 zs.1), (8, .i .i64 zs.2)], [])) (fun (zr : Int) => (XE.exit 0, frm [(7, .i .i64 zr)], [])) ?_ (k, i)
  rintro ⟨k, i⟩
  simp -dsimp +contextual only [↓evA, evB, evT, tys, encs, Nat.reduceAdd, Nat.reduceMul, Nat.reduceBEq, Nat.reduceLeDiff, Nat.reduceLT, TP, orc_p, orc_l]
  try simp only [spec_l16Last_l3, evT, encs, c_js, r_map_some, e_need_t]
  all_goals rfl
theorem e_spec_l16Last (n : Nat) {R1} {l : List Hand} (thing : Int) (before : Int) [H1 : EncL cHand R1 l] : CP T (n + 2) 215 [.imm 5 R1, .i .i64 thing, .i .i64 before] = (spec_l16Last l thing before).map fun r => .i .i64 r := by
  obtain ⟨rfl⟩ := H1
  rw [CP_eq]
  simp -dsimp +contextual only [↓evA, evB, evT, tys, encs, Nat.reduceAdd, Nat.reduceMul, Nat.reduceBEq, Nat.reduceLeDiff, Nat.reduceLT, Tryz.func215, Tryz.f215, a215, TP, orc_p, orc_l, e_spec_l16Last_l3]
  try simp only [spec_l16Last, evT, encs, c_js, r_map_some, e_need_t]
  all_goals rfl
theorem e_spec_IsChain_l3 (n : Nat) {R1} {l : List Hand} (t3 : Int) (t4 : Int) [H1 : EncL cHand R1 l] : LP T (n + 6) 128 3 (frm [(0, .imm 5 R1), (3, .i .i64 t3), (4, .i .i64 t4)]) [] =
    lmap (run (spec_IsChain_l3 l) (t3, t4)) (fun (zr : Bool) => (XE.ret, frm [(2, .b zr)], [])) (fun (zr : Unit) => (XE.exit 0, frm [(0, .imm 5 (l.map cHand))], [])) := by
  obtain ⟨rfl⟩ := H1
  rw [LP_eq]
  simp -dsimp only [↓evA, evB, lpG_eq, Tryz.func128, Tryz.f128, a128, TP, Nat.reduceAdd, Nat.reduceMul, Nat.reduceBEq, Nat.reduceLeDiff, Nat.reduceLT]
  refine run_map (fun (zs : Int × Int) => (frm [(0, .imm 5 (l.map cHand)), (3, .i .i64 zs.1), (4, .i .i64 zs.2)], [])) (evO (fun (zr : Bool) => (XE.ret, frm [(2, .b zr)], [])) (fun (zr : Unit) => (XE.exit 0, frm [(0, .imm 5 (l.map cHand))], []))) ?_ (t3, t4)
  rintro ⟨t3, t4⟩
  simp -dsimp +contextual only [↓evA, evB, evT, tys, encs, Nat.reduceAdd, Nat.reduceMul, Nat.reduceBEq, Nat.reduceLeDiff, Nat.reduceLT, TP, orc_p, orc_l, e_spec_HandSeal, e_spec_l1In, e_spec_l16Last]
  try simp only [spec_IsChain_l3, evT, encs, c_js, r_map_some, e_need_t]
  all_goals rfl
theorem e_spec_IsChain (n : Nat) {R1} {l : List Hand} [H1 : EncL cHand R1 l] : CP T (n + 7) 128 [.imm 5 R1] = (spec_IsChain l).map fun r => .b r := by
  obtain ⟨rfl⟩ := H1
  rw [CP_eq]
  simp -dsimp +contextual only [↓evA, evB, evT, tys, encs, Nat.reduceAdd, Nat.reduceMul, Nat.reduceBEq, Nat.reduceLeDiff, Nat.reduceLT, Tryz.func128, Tryz.f128, a128, TP, orc_p, orc_l, e_spec_IsChain_l3]
  try simp only [spec_IsChain, evT, encs, c_js, r_map_some, e_need_t]
  all_goals rfl
theorem e_spec_AreEntries_l2 (n : Nat) {R1} {l : List Entry} (i : Int) [H1 : EncL cEntry R1 l] : LP T (n + 2) 129 2 (frm [(0, .imm 4 R1), (3, .i .i64 i)]) [] =
    lmap (run (spec_AreEntries_l2 l) i) (fun (zr : Bool) => (XE.ret, frm [(2, .b zr)], [])) (fun (zr : Unit) => (XE.exit 0, frm [(0, .imm 4 (l.map cEntry))], [])) := by
  obtain ⟨rfl⟩ := H1
  rw [LP_eq]
  simp -dsimp only [↓evA, evB, lpG_eq, Tryz.func129, Tryz.f129, a129, TP, Nat.reduceAdd, Nat.reduceMul, Nat.reduceBEq, Nat.reduceLeDiff, Nat.reduceLT]
  refine run_map (fun (zs : Int) => (frm [(0, .imm 4 (l.map cEntry)), (3, .i .i64 zs)], [])) (evO (fun (zr : Bool) => (XE.ret, frm [(2, .b zr)], [])) (fun (zr : Unit) => (XE.exit 0, frm [(0, .imm 4 (l.map cEntry))], []))) ?_ i
  intro i
  simp -dsimp +contextual only [↓evA, evB, evT, tys, encs, Nat.reduceAdd, Nat.reduceMul, Nat.reduceBEq, Nat.reduceLeDiff, Nat.reduceLT, TP, orc_p, orc_l, e_spec_l1In]
  try simp only [spec_AreEntries_l2, evT, encs, c_js, r_map_some, e_need_t]
  all_goals rfl
theorem e_spec_AreEntries (n : Nat) {R1} {l : List Entry} [H1 : EncL cEntry R1 l] : CP T (n + 3) 129 [.imm 4 R1] = (spec_AreEntries l).map fun r => .b r := by
  obtain ⟨rfl⟩ := H1
  rw [CP_eq]
  simp -dsimp +contextual only [↓evA, evB, evT, tys, encs, Nat.reduceAdd, Nat.reduceMul, Nat.reduceBEq, Nat.reduceLeDiff, Nat.reduceLT, Tryz.func129, Tryz.f129, a129, TP, orc_p, orc_l, e_spec_AreEntries_l2]
  try simp only [spec_AreEntries, evT, encs, c_js, r_map_some, e_need_t]
  all_goals rfl
theorem e_spec_l9Put_l2 (n : Nat) {R1} {l : List Int} (vn : Int) (k : Int) [H1 : EncL c_i64 R1 l] : LP T (n + 1) 216 2 (frm [(0, .imm 1 R1), (1, .i .i64 vn), (5, .i .i64 k)]) [] =
    (run (spec_l9Put_l2 l vn) k).map (fun (zr : Int) => (XE.exit 0, frm [(0, .imm 1 (l.map c_i64)), (1, .i .i64 vn), (5, .i .i64 zr)], [])) := by
  obtain ⟨rfl⟩ := H1
  rw [LP_eq]
  simp -dsimp only [↓evA, evB, lpG_eq, Tryz.func216, Tryz.f216, a216, TP, Nat.reduceAdd, Nat.reduceMul, Nat.reduceBEq, Nat.reduceLeDiff, Nat.reduceLT]
  refine run_map (fun (zs : Int) => (frm [(0, .imm 1 (l.map c_i64)), (1, .i .i64 vn), (5, .i .i64 zs)], [])) (fun (zr : Int) => (XE.exit 0, frm [(0, .imm 1 (l.map c_i64)), (1, .i .i64 vn), (5, .i .i64 zr)], [])) ?_ k
  intro k
  simp -dsimp +contextual only [↓evA, evB, evT, tys, encs, Nat.reduceAdd, Nat.reduceMul, Nat.reduceBEq, Nat.reduceLeDiff, Nat.reduceLT, TP, orc_p, orc_l]
  try simp only [spec_l9Put_l2, evT, encs, c_js, r_map_some, e_need_t]
  try simp only [List.contains_nil, Bool.not_false, Bool.and_true, e_need_t, List.length_append, List.length_cons, List.length_nil, Nat.zero_add, need_comm, oeq_self]
  all_goals rfl
theorem e_spec_l9Put (n : Nat) {R1} {l : List Int} (vn : Int) [H1 : EncL c_i64 R1 l] : CP T (n + 2) 216 [.imm 1 R1, .i .i64 vn] = (spec_l9Put l vn).map fun r => .own 1 (r.map c_i64) := by
  obtain ⟨rfl⟩ := H1
  rw [CP_eq]
  simp -dsimp +contextual only [↓evA, evB, evT, tys, encs, Nat.reduceAdd, Nat.reduceMul, Nat.reduceBEq, Nat.reduceLeDiff, Nat.reduceLT, Tryz.func216, Tryz.f216, a216, TP, orc_p, orc_l, e_spec_l9Put_l2]
  try simp only [spec_l9Put, evT, encs, c_js, r_map_some, e_need_t]
  try simp only [List.contains_nil, Bool.not_false, Bool.and_true, e_need_t, List.length_append, List.length_cons, List.length_nil, Nat.zero_add, need_comm, oeq_self]
  all_goals rfl
theorem e_spec_InHouse_l3 (n : Nat) {R1} {l : List Hand} (house : Int) {R2} {out : List Int} (i : Int) [H1 : EncL cHand R1 l] [H2 : EncL c_i64 R2 out] : LP T (n + 8) 132 3 (frm [(0, .imm 5 R1), (1, .i .i64 house), (5, .sl 0), (6, .i .i64 i)]) [some (Ent.lst 1 R2)] =
    (run (spec_InHouse_l3 l house) (out, i)).map (fun (zr : (List Int)) => (XE.exit 0, frm [(5, .sl 0)], [some (Ent.lst 1 (zr.map c_i64))])) := by
  obtain ⟨rfl⟩ := H1
  obtain ⟨rfl⟩ := H2
  rw [LP_eq]
  simp -dsimp only [↓evA, evB, lpG_eq, Tryz.func132, Tryz.f132, a132, TP, Nat.reduceAdd, Nat.reduceMul, Nat.reduceBEq, Nat.reduceLeDiff, Nat.reduceLT]
  refine run_map (fun (zs : (List Int) × Int) => (frm [(0, .imm 5 (l.map cHand)), (1, .i .i64 house), (5, .sl 0), (6, .i .i64 zs.2)], [some (Ent.lst 1 (zs.1.map c_i64))])) (fun (zr : (List Int)) => (XE.exit 0, frm [(5, .sl 0)], [some (Ent.lst 1 (zr.map c_i64))])) ?_ (out, i)
  rintro ⟨out, i⟩
  simp -dsimp +contextual only [↓evA, evB, evT, tys, encs, Nat.reduceAdd, Nat.reduceMul, Nat.reduceBEq, Nat.reduceLeDiff, Nat.reduceLT, TP, orc_p, orc_l, e_spec_IsChain, e_spec_l16Last, e_spec_l9Put]
  try simp only [spec_InHouse_l3, evT, encs, c_js, r_map_some, e_need_t]
  all_goals rfl
theorem e_spec_InHouse (n : Nat) {R1} {l : List Hand} (house : Int) [H1 : EncL cHand R1 l] : CP T (n + 9) 132 [.imm 5 R1, .i .i64 house] = (spec_InHouse l house).map fun r => .own 1 (r.map c_i64) := by
  obtain ⟨rfl⟩ := H1
  rw [CP_eq]
  simp -dsimp +contextual only [↓evA, evB, evT, tys, encs, Nat.reduceAdd, Nat.reduceMul, Nat.reduceBEq, Nat.reduceLeDiff, Nat.reduceLT, Tryz.func132, Tryz.f132, a132, TP, orc_p, orc_l, e_spec_InHouse_l3]
  try simp only [spec_InHouse, evT, encs, c_js, r_map_some, e_need_t]
  all_goals rfl
theorem e_spec_FindThing_l2 (n : Nat) {R1} {l : List Find} (id : Int) (i : Int) [H1 : EncL cFind R1 l] : LP T (n + 1) 100 2 (frm [(0, .imm 8 R1), (1, .i .i64 id), (5, .i .i64 i)]) [] =
    lmap (run (spec_FindThing_l2 l id) i) (fun (zr : Int) => (XE.ret, frm [(4, .i .i64 zr)], [])) (fun (zr : Unit) => (XE.exit 0, frm [], [])) := by
  obtain ⟨rfl⟩ := H1
  rw [LP_eq]
  simp -dsimp only [↓evA, evB, lpG_eq, Tryz.func100, Tryz.f100, a100, TP, Nat.reduceAdd, Nat.reduceMul, Nat.reduceBEq, Nat.reduceLeDiff, Nat.reduceLT]
  refine run_map (fun (zs : Int) => (frm [(0, .imm 8 (l.map cFind)), (1, .i .i64 id), (5, .i .i64 zs)], [])) (evO (fun (zr : Int) => (XE.ret, frm [(4, .i .i64 zr)], [])) (fun (zr : Unit) => (XE.exit 0, frm [], []))) ?_ i
  intro i
  simp -dsimp +contextual only [↓evA, evB, evT, tys, encs, Nat.reduceAdd, Nat.reduceMul, Nat.reduceBEq, Nat.reduceLeDiff, Nat.reduceLT, TP, orc_p, orc_l]
  try simp only [spec_FindThing_l2, evT, encs, c_js, r_map_some, e_need_t]
  all_goals rfl
theorem e_spec_FindThing (n : Nat) {R1} {l : List Find} (id : Int) [H1 : EncL cFind R1 l] : CP T (n + 2) 100 [.imm 8 R1, .i .i64 id] = (spec_FindThing l id).map fun r => .i .i64 r := by
  obtain ⟨rfl⟩ := H1
  rw [CP_eq]
  simp -dsimp +contextual only [↓evA, evB, evT, tys, encs, Nat.reduceAdd, Nat.reduceMul, Nat.reduceBEq, Nat.reduceLeDiff, Nat.reduceLT, Tryz.func100, Tryz.f100, a100, TP, orc_p, orc_l, e_spec_FindThing_l2]
  try simp only [spec_FindThing, evT, encs, c_js, r_map_some, e_need_t]
  all_goals rfl
theorem e_spec_SlotOf_l2 (n : Nat) {R1} {l : List Slot} (thing : Int) (i : Int) [H1 : EncL cSlot R1 l] : LP T (n + 1) 95 2 (frm [(0, .imm 3 R1), (1, .i .i64 thing), (5, .i .i64 i)]) [] =
    lmap (run (spec_SlotOf_l2 l thing) i) (fun (zr : Int) => (XE.ret, frm [(4, .i .i64 zr)], [])) (fun (zr : Unit) => (XE.exit 0, frm [], [])) := by
  obtain ⟨rfl⟩ := H1
  rw [LP_eq]
  simp -dsimp only [↓evA, evB, lpG_eq, Tryz.func95, Tryz.f95, a95, TP, Nat.reduceAdd, Nat.reduceMul, Nat.reduceBEq, Nat.reduceLeDiff, Nat.reduceLT]
  refine run_map (fun (zs : Int) => (frm [(0, .imm 3 (l.map cSlot)), (1, .i .i64 thing), (5, .i .i64 zs)], [])) (evO (fun (zr : Int) => (XE.ret, frm [(4, .i .i64 zr)], [])) (fun (zr : Unit) => (XE.exit 0, frm [], []))) ?_ i
  intro i
  simp -dsimp +contextual only [↓evA, evB, evT, tys, encs, Nat.reduceAdd, Nat.reduceMul, Nat.reduceBEq, Nat.reduceLeDiff, Nat.reduceLT, TP, orc_p, orc_l]
  try simp only [spec_SlotOf_l2, evT, encs, c_js, r_map_some, e_need_t]
  all_goals rfl
theorem e_spec_SlotOf (n : Nat) {R1} {l : List Slot} (thing : Int) [H1 : EncL cSlot R1 l] : CP T (n + 2) 95 [.imm 3 R1, .i .i64 thing] = (spec_SlotOf l thing).map fun r => .i .i64 r := by
  obtain ⟨rfl⟩ := H1
  rw [CP_eq]
  simp -dsimp +contextual only [↓evA, evB, evT, tys, encs, Nat.reduceAdd, Nat.reduceMul, Nat.reduceBEq, Nat.reduceLeDiff, Nat.reduceLT, Tryz.func95, Tryz.f95, a95, TP, orc_p, orc_l, e_spec_SlotOf_l2]
  try simp only [spec_SlotOf, evT, encs, c_js, r_map_some, e_need_t]
  all_goals rfl
theorem e_spec_l8Has_l2 (n : Nat) {R1} {l : List Int} (vn : Int) (i : Int) [H1 : EncL c_i64 R1 l] : LP T (n + 1) 134 2 (frm [(0, .imm 1 R1), (1, .i .i64 vn), (5, .i .i64 i)]) [] =
    lmap (run (spec_l8Has_l2 l vn) i) (fun (zr : Bool) => (XE.ret, frm [(4, .b zr)], [])) (fun (zr : Unit) => (XE.exit 0, frm [], [])) := by
  obtain ⟨rfl⟩ := H1
  rw [LP_eq]
  simp -dsimp only [↓evA, evB, lpG_eq, Tryz.func134, Tryz.f134, a134, TP, Nat.reduceAdd, Nat.reduceMul, Nat.reduceBEq, Nat.reduceLeDiff, Nat.reduceLT]
  refine run_map (fun (zs : Int) => (frm [(0, .imm 1 (l.map c_i64)), (1, .i .i64 vn), (5, .i .i64 zs)], [])) (evO (fun (zr : Bool) => (XE.ret, frm [(4, .b zr)], [])) (fun (zr : Unit) => (XE.exit 0, frm [], []))) ?_ i
  intro i
  simp -dsimp +contextual only [↓evA, evB, evT, tys, encs, Nat.reduceAdd, Nat.reduceMul, Nat.reduceBEq, Nat.reduceLeDiff, Nat.reduceLT, TP, orc_p, orc_l]
  try simp only [spec_l8Has_l2, evT, encs, c_js, r_map_some, e_need_t]
  all_goals rfl
theorem e_spec_l8Has (n : Nat) {R1} {l : List Int} (vn : Int) [H1 : EncL c_i64 R1 l] : CP T (n + 2) 134 [.imm 1 R1, .i .i64 vn] = (spec_l8Has l vn).map fun r => .b r := by
  obtain ⟨rfl⟩ := H1
  rw [CP_eq]
  simp -dsimp +contextual only [↓evA, evB, evT, tys, encs, Nat.reduceAdd, Nat.reduceMul, Nat.reduceBEq, Nat.reduceLeDiff, Nat.reduceLT, Tryz.func134, Tryz.f134, a134, TP, orc_p, orc_l, e_spec_l8Has_l2]
  try simp only [spec_l8Has, evT, encs, c_js, r_map_some, e_need_t]
  all_goals rfl
theorem e_spec_l33Things_l5 (n : Nat) (t1xNo : Int) {R1} {t1xFinds : List Find} {R2} {t1xSecrets : List Secret} {R3} {t1xSlots : List Slot} {R4} {t1xClaims : List Claim} {R5} {t1xTrials : List Trial} {R6} {t1xChain : List Hand} {R7} {t1xBook : List Entry} (t1xNow : Int) {R8} {t3 : List Int} (t4 : Int) [H1 : EncL cFind R1 t1xFinds] [H2 : EncL cSecret R2 t1xSecrets] [H3 : EncL cSlot R3 t1xSlots] [H4 : EncL cClaim R4 t1xClaims] [H5 : EncL cTrial R5 t1xTrials] [H6 : EncL cHand R6 t1xChain] [H7 : EncL cEntry R7 t1xBook] [H8 : EncL c_i64 R8 t3] : LP T (n + 3) 130 5 (frm [(1, .ptr 0 0 0), (3, .sl 1), (4, .i .i64 t4)]) [some (Ent.box [.i .i64 t1xNo, .imm 8 R1, .imm 3 R2, .imm 3 R3, .imm 5 R4, .imm 4 R5, .imm 5 R6, .imm 4 R7, .i .i64 t1xNow]), some (Ent.lst 1 R8)] =
    lmap (run (spec_l33Things_l5 (⟨t1xNo, t1xFinds, t1xSecrets, t1xSlots, t1xClaims, t1xTrials, t1xChain, t1xBook, t1xNow⟩ : House) t3) t4) (fun (zr : Bool) => (XE.ret, frm [(2, .b zr)], [])) (fun (zr : Unit) => (XE.exit 0, frm [(1, .ptr 0 0 0), (3, .sl 1)], [some (Ent.box [.i .i64 (⟨t1xNo, t1xFinds, t1xSecrets, t1xSlots, t1xClaims, t1xTrials, t1xChain, t1xBook, t1xNow⟩ : House).No, .imm 8 ((⟨t1xNo, t1xFinds, t1xSecrets, t1xSlots, t1xClaims, t1xTrials, t1xChain, t1xBook, t1xNow⟩ : House).Finds.map cFind), .imm 3 ((⟨t1xNo, t1xFinds, t1xSecrets, t1xSlots, t1xClaims, t1xTrials, t1xChain, t1xBook, t1xNow⟩ : House).Secrets.map cSecret), .imm 3 ((⟨t1xNo, t1xFinds, t1xSecrets, t1xSlots, t1xClaims, t1xTrials, t1xChain, t1xBook, t1xNow⟩ : House).Slots.map cSlot), .imm 5 ((⟨t1xNo, t1xFinds, t1xSecrets, t1xSlots, t1xClaims, t1xTrials, t1xChain, t1xBook, t1xNow⟩ : House).Claims.map cClaim), .imm 4 ((⟨t1xNo, t1xFinds, t1xSecrets, t1xSlots, t1xClaims, t1xTrials, t1xChain, t1xBook, t1xNow⟩ : House).Trials.map cTrial), .imm 5 ((⟨t1xNo, t1xFinds, t1xSecrets, t1xSlots, t1xClaims, t1xTrials, t1xChain, t1xBook, t1xNow⟩ : House).Chain.map cHand), .imm 4 ((⟨t1xNo, t1xFinds, t1xSecrets, t1xSlots, t1xClaims, t1xTrials, t1xChain, t1xBook, t1xNow⟩ : House).Book.map cEntry), .i .i64 (⟨t1xNo, t1xFinds, t1xSecrets, t1xSlots, t1xClaims, t1xTrials, t1xChain, t1xBook, t1xNow⟩ : House).Now]), some (Ent.lst 1 (t3.map c_i64))])) := by
  obtain ⟨rfl⟩ := H1
  obtain ⟨rfl⟩ := H2
  obtain ⟨rfl⟩ := H3
  obtain ⟨rfl⟩ := H4
  obtain ⟨rfl⟩ := H5
  obtain ⟨rfl⟩ := H6
  obtain ⟨rfl⟩ := H7
  obtain ⟨rfl⟩ := H8
  rw [LP_eq]
  simp -dsimp only [↓evA, evB, lpG_eq, Tryz.func130, Tryz.f130, a130, TP, Nat.reduceAdd, Nat.reduceMul, Nat.reduceBEq, Nat.reduceLeDiff, Nat.reduceLT]
  refine run_map (fun (zs : Int) => (frm [(1, .ptr 0 0 0), (3, .sl 1), (4, .i .i64 zs)], [some (Ent.box [.i .i64 (⟨t1xNo, t1xFinds, t1xSecrets, t1xSlots, t1xClaims, t1xTrials, t1xChain, t1xBook, t1xNow⟩ : House).No, .imm 8 ((⟨t1xNo, t1xFinds, t1xSecrets, t1xSlots, t1xClaims, t1xTrials, t1xChain, t1xBook, t1xNow⟩ : House).Finds.map cFind), .imm 3 ((⟨t1xNo, t1xFinds, t1xSecrets, t1xSlots, t1xClaims, t1xTrials, t1xChain, t1xBook, t1xNow⟩ : House).Secrets.map cSecret), .imm 3 ((⟨t1xNo, t1xFinds, t1xSecrets, t1xSlots, t1xClaims, t1xTrials, t1xChain, t1xBook, t1xNow⟩ : House).Slots.map cSlot), .imm 5 ((⟨t1xNo, t1xFinds, t1xSecrets, t1xSlots, t1xClaims, t1xTrials, t1xChain, t1xBook, t1xNow⟩ : House).Claims.map cClaim), .imm 4 ((⟨t1xNo, t1xFinds, t1xSecrets, t1xSlots, t1xClaims, t1xTrials, t1xChain, t1xBook, t1xNow⟩ : House).Trials.map cTrial), .imm 5 ((⟨t1xNo, t1xFinds, t1xSecrets, t1xSlots, t1xClaims, t1xTrials, t1xChain, t1xBook, t1xNow⟩ : House).Chain.map cHand), .imm 4 ((⟨t1xNo, t1xFinds, t1xSecrets, t1xSlots, t1xClaims, t1xTrials, t1xChain, t1xBook, t1xNow⟩ : House).Book.map cEntry), .i .i64 (⟨t1xNo, t1xFinds, t1xSecrets, t1xSlots, t1xClaims, t1xTrials, t1xChain, t1xBook, t1xNow⟩ : House).Now]), some (Ent.lst 1 (t3.map c_i64))])) (evO (fun (zr : Bool) => (XE.ret, frm [(2, .b zr)], [])) (fun (zr : Unit) => (XE.exit 0, frm [(1, .ptr 0 0 0), (3, .sl 1)], [some (Ent.box [.i .i64 (⟨t1xNo, t1xFinds, t1xSecrets, t1xSlots, t1xClaims, t1xTrials, t1xChain, t1xBook, t1xNow⟩ : House).No, .imm 8 ((⟨t1xNo, t1xFinds, t1xSecrets, t1xSlots, t1xClaims, t1xTrials, t1xChain, t1xBook, t1xNow⟩ : House).Finds.map cFind), .imm 3 ((⟨t1xNo, t1xFinds, t1xSecrets, t1xSlots, t1xClaims, t1xTrials, t1xChain, t1xBook, t1xNow⟩ : House).Secrets.map cSecret), .imm 3 ((⟨t1xNo, t1xFinds, t1xSecrets, t1xSlots, t1xClaims, t1xTrials, t1xChain, t1xBook, t1xNow⟩ : House).Slots.map cSlot), .imm 5 ((⟨t1xNo, t1xFinds, t1xSecrets, t1xSlots, t1xClaims, t1xTrials, t1xChain, t1xBook, t1xNow⟩ : House).Claims.map cClaim), .imm 4 ((⟨t1xNo, t1xFinds, t1xSecrets, t1xSlots, t1xClaims, t1xTrials, t1xChain, t1xBook, t1xNow⟩ : House).Trials.map cTrial), .imm 5 ((⟨t1xNo, t1xFinds, t1xSecrets, t1xSlots, t1xClaims, t1xTrials, t1xChain, t1xBook, t1xNow⟩ : House).Chain.map cHand), .imm 4 ((⟨t1xNo, t1xFinds, t1xSecrets, t1xSlots, t1xClaims, t1xTrials, t1xChain, t1xBook, t1xNow⟩ : House).Book.map cEntry), .i .i64 (⟨t1xNo, t1xFinds, t1xSecrets, t1xSlots, t1xClaims, t1xTrials, t1xChain, t1xBook, t1xNow⟩ : House).Now]), some (Ent.lst 1 (t3.map c_i64))]))) ?_ t4
  intro t4
  simp -dsimp +contextual only [↓evA, evB, evT, tys, encs, Nat.reduceAdd, Nat.reduceMul, Nat.reduceBEq, Nat.reduceLeDiff, Nat.reduceLT, TP, orc_p, orc_l, e_spec_FindThing]
  try simp only [spec_l33Things_l5, evT, encs, c_js, r_map_some, e_need_t]
  all_goals rfl
theorem e_spec_l33Things_l10 (n : Nat) (t1xNo : Int) {R1} {t1xFinds : List Find} {R2} {t1xSecrets : List Secret} {R3} {t1xSlots : List Slot} {R4} {t1xClaims : List Claim} {R5} {t1xTrials : List Trial} {R6} {t1xChain : List Hand} {R7} {t1xBook : List Entry} (t1xNow : Int) {R8} {t3 : List Int} (t5 : Int) [H1 : EncL cFind R1 t1xFinds] [H2 : EncL cSecret R2 t1xSecrets] [H3 : EncL cSlot R3 t1xSlots] [H4 : EncL cClaim R4 t1xClaims] [H5 : EncL cTrial R5 t1xTrials] [H6 : EncL cHand R6 t1xChain] [H7 : EncL cEntry R7 t1xBook] [H8 : EncL c_i64 R8 t3] : LP T (n + 3) 130 10 (frm [(1, .ptr 0 0 0), (3, .sl 1), (5, .i .i64 t5)]) [some (Ent.box [.i .i64 t1xNo, .imm 8 R1, .imm 3 R2, .imm 3 R3, .imm 5 R4, .imm 4 R5, .imm 5 R6, .imm 4 R7, .i .i64 t1xNow]), some (Ent.lst 1 R8)] =
    lmap (run (spec_l33Things_l10 (⟨t1xNo, t1xFinds, t1xSecrets, t1xSlots, t1xClaims, t1xTrials, t1xChain, t1xBook, t1xNow⟩ : House) t3) t5) (fun (zr : Bool) => (XE.ret, frm [(2, .b zr)], [])) (fun (zr : Unit) => (XE.exit 2, frm [(1, .ptr 0 0 0)], [some (Ent.box [.i .i64 (⟨t1xNo, t1xFinds, t1xSecrets, t1xSlots, t1xClaims, t1xTrials, t1xChain, t1xBook, t1xNow⟩ : House).No, .imm 8 ((⟨t1xNo, t1xFinds, t1xSecrets, t1xSlots, t1xClaims, t1xTrials, t1xChain, t1xBook, t1xNow⟩ : House).Finds.map cFind), .imm 3 ((⟨t1xNo, t1xFinds, t1xSecrets, t1xSlots, t1xClaims, t1xTrials, t1xChain, t1xBook, t1xNow⟩ : House).Secrets.map cSecret), .imm 3 ((⟨t1xNo, t1xFinds, t1xSecrets, t1xSlots, t1xClaims, t1xTrials, t1xChain, t1xBook, t1xNow⟩ : House).Slots.map cSlot), .imm 5 ((⟨t1xNo, t1xFinds, t1xSecrets, t1xSlots, t1xClaims, t1xTrials, t1xChain, t1xBook, t1xNow⟩ : House).Claims.map cClaim), .imm 4 ((⟨t1xNo, t1xFinds, t1xSecrets, t1xSlots, t1xClaims, t1xTrials, t1xChain, t1xBook, t1xNow⟩ : House).Trials.map cTrial), .imm 5 ((⟨t1xNo, t1xFinds, t1xSecrets, t1xSlots, t1xClaims, t1xTrials, t1xChain, t1xBook, t1xNow⟩ : House).Chain.map cHand), .imm 4 ((⟨t1xNo, t1xFinds, t1xSecrets, t1xSlots, t1xClaims, t1xTrials, t1xChain, t1xBook, t1xNow⟩ : House).Book.map cEntry), .i .i64 (⟨t1xNo, t1xFinds, t1xSecrets, t1xSlots, t1xClaims, t1xTrials, t1xChain, t1xBook, t1xNow⟩ : House).Now])])) := by
  obtain ⟨rfl⟩ := H1
  obtain ⟨rfl⟩ := H2
  obtain ⟨rfl⟩ := H3
  obtain ⟨rfl⟩ := H4
  obtain ⟨rfl⟩ := H5
  obtain ⟨rfl⟩ := H6
  obtain ⟨rfl⟩ := H7
  obtain ⟨rfl⟩ := H8
  rw [LP_eq]
  simp -dsimp only [↓evA, evB, lpG_eq, Tryz.func130, Tryz.f130, a130, TP, Nat.reduceAdd, Nat.reduceMul, Nat.reduceBEq, Nat.reduceLeDiff, Nat.reduceLT]
  refine run_map (fun (zs : Int) => (frm [(1, .ptr 0 0 0), (3, .sl 1), (5, .i .i64 zs)], [some (Ent.box [.i .i64 (⟨t1xNo, t1xFinds, t1xSecrets, t1xSlots, t1xClaims, t1xTrials, t1xChain, t1xBook, t1xNow⟩ : House).No, .imm 8 ((⟨t1xNo, t1xFinds, t1xSecrets, t1xSlots, t1xClaims, t1xTrials, t1xChain, t1xBook, t1xNow⟩ : House).Finds.map cFind), .imm 3 ((⟨t1xNo, t1xFinds, t1xSecrets, t1xSlots, t1xClaims, t1xTrials, t1xChain, t1xBook, t1xNow⟩ : House).Secrets.map cSecret), .imm 3 ((⟨t1xNo, t1xFinds, t1xSecrets, t1xSlots, t1xClaims, t1xTrials, t1xChain, t1xBook, t1xNow⟩ : House).Slots.map cSlot), .imm 5 ((⟨t1xNo, t1xFinds, t1xSecrets, t1xSlots, t1xClaims, t1xTrials, t1xChain, t1xBook, t1xNow⟩ : House).Claims.map cClaim), .imm 4 ((⟨t1xNo, t1xFinds, t1xSecrets, t1xSlots, t1xClaims, t1xTrials, t1xChain, t1xBook, t1xNow⟩ : House).Trials.map cTrial), .imm 5 ((⟨t1xNo, t1xFinds, t1xSecrets, t1xSlots, t1xClaims, t1xTrials, t1xChain, t1xBook, t1xNow⟩ : House).Chain.map cHand), .imm 4 ((⟨t1xNo, t1xFinds, t1xSecrets, t1xSlots, t1xClaims, t1xTrials, t1xChain, t1xBook, t1xNow⟩ : House).Book.map cEntry), .i .i64 (⟨t1xNo, t1xFinds, t1xSecrets, t1xSlots, t1xClaims, t1xTrials, t1xChain, t1xBook, t1xNow⟩ : House).Now]), some (Ent.lst 1 (t3.map c_i64))])) (evO (fun (zr : Bool) => (XE.ret, frm [(2, .b zr)], [])) (fun (zr : Unit) => (XE.exit 2, frm [(1, .ptr 0 0 0)], [some (Ent.box [.i .i64 (⟨t1xNo, t1xFinds, t1xSecrets, t1xSlots, t1xClaims, t1xTrials, t1xChain, t1xBook, t1xNow⟩ : House).No, .imm 8 ((⟨t1xNo, t1xFinds, t1xSecrets, t1xSlots, t1xClaims, t1xTrials, t1xChain, t1xBook, t1xNow⟩ : House).Finds.map cFind), .imm 3 ((⟨t1xNo, t1xFinds, t1xSecrets, t1xSlots, t1xClaims, t1xTrials, t1xChain, t1xBook, t1xNow⟩ : House).Secrets.map cSecret), .imm 3 ((⟨t1xNo, t1xFinds, t1xSecrets, t1xSlots, t1xClaims, t1xTrials, t1xChain, t1xBook, t1xNow⟩ : House).Slots.map cSlot), .imm 5 ((⟨t1xNo, t1xFinds, t1xSecrets, t1xSlots, t1xClaims, t1xTrials, t1xChain, t1xBook, t1xNow⟩ : House).Claims.map cClaim), .imm 4 ((⟨t1xNo, t1xFinds, t1xSecrets, t1xSlots, t1xClaims, t1xTrials, t1xChain, t1xBook, t1xNow⟩ : House).Trials.map cTrial), .imm 5 ((⟨t1xNo, t1xFinds, t1xSecrets, t1xSlots, t1xClaims, t1xTrials, t1xChain, t1xBook, t1xNow⟩ : House).Chain.map cHand), .imm 4 ((⟨t1xNo, t1xFinds, t1xSecrets, t1xSlots, t1xClaims, t1xTrials, t1xChain, t1xBook, t1xNow⟩ : House).Book.map cEntry), .i .i64 (⟨t1xNo, t1xFinds, t1xSecrets, t1xSlots, t1xClaims, t1xTrials, t1xChain, t1xBook, t1xNow⟩ : House).Now])]))) ?_ t5
  intro t5
  simp -dsimp +contextual only [↓evA, evB, evT, tys, encs, Nat.reduceAdd, Nat.reduceMul, Nat.reduceBEq, Nat.reduceLeDiff, Nat.reduceLT, TP, orc_p, orc_l, e_spec_SlotOf, e_spec_l8Has]
  try simp only [spec_l33Things_l10, evT, encs, c_js, r_map_some, e_need_t]
  all_goals rfl
theorem e_spec_l33Things_l16 (n : Nat) (t1xNo : Int) {R1} {t1xFinds : List Find} {R2} {t1xSecrets : List Secret} {R3} {t1xSlots : List Slot} {R4} {t1xClaims : List Claim} {R5} {t1xTrials : List Trial} {R6} {t1xChain : List Hand} {R7} {t1xBook : List Entry} (t1xNow : Int) (t7 : Int) [H1 : EncL cFind R1 t1xFinds] [H2 : EncL cSecret R2 t1xSecrets] [H3 : EncL cSlot R3 t1xSlots] [H4 : EncL cClaim R4 t1xClaims] [H5 : EncL cTrial R5 t1xTrials] [H6 : EncL cHand R6 t1xChain] [H7 : EncL cEntry R7 t1xBook] : LP T (n + 3) 130 16 (frm [(1, .ptr 0 0 0), (7, .i .i64 t7)]) [some (Ent.box [.i .i64 t1xNo, .imm 8 R1, .imm 3 R2, .imm 3 R3, .imm 5 R4, .imm 4 R5, .imm 5 R6, .imm 4 R7, .i .i64 t1xNow])] =
    lmap (run (spec_l33Things_l16 (⟨t1xNo, t1xFinds, t1xSecrets, t1xSlots, t1xClaims, t1xTrials, t1xChain, t1xBook, t1xNow⟩ : House)) t7) (fun (zr : Bool) => (XE.ret, frm [(2, .b zr)], [])) (fun (zr : Unit) => (XE.exit 4, frm [], [])) := by
  obtain ⟨rfl⟩ := H1
  obtain ⟨rfl⟩ := H2
  obtain ⟨rfl⟩ := H3
  obtain ⟨rfl⟩ := H4
  obtain ⟨rfl⟩ := H5
  obtain ⟨rfl⟩ := H6
  obtain ⟨rfl⟩ := H7
  rw [LP_eq]
  simp -dsimp only [↓evA, evB, lpG_eq, Tryz.func130, Tryz.f130, a130, TP, Nat.reduceAdd, Nat.reduceMul, Nat.reduceBEq, Nat.reduceLeDiff, Nat.reduceLT]
  refine run_map (fun (zs : Int) => (frm [(1, .ptr 0 0 0), (7, .i .i64 zs)], [some (Ent.box [.i .i64 (⟨t1xNo, t1xFinds, t1xSecrets, t1xSlots, t1xClaims, t1xTrials, t1xChain, t1xBook, t1xNow⟩ : House).No, .imm 8 ((⟨t1xNo, t1xFinds, t1xSecrets, t1xSlots, t1xClaims, t1xTrials, t1xChain, t1xBook, t1xNow⟩ : House).Finds.map cFind), .imm 3 ((⟨t1xNo, t1xFinds, t1xSecrets, t1xSlots, t1xClaims, t1xTrials, t1xChain, t1xBook, t1xNow⟩ : House).Secrets.map cSecret), .imm 3 ((⟨t1xNo, t1xFinds, t1xSecrets, t1xSlots, t1xClaims, t1xTrials, t1xChain, t1xBook, t1xNow⟩ : House).Slots.map cSlot), .imm 5 ((⟨t1xNo, t1xFinds, t1xSecrets, t1xSlots, t1xClaims, t1xTrials, t1xChain, t1xBook, t1xNow⟩ : House).Claims.map cClaim), .imm 4 ((⟨t1xNo, t1xFinds, t1xSecrets, t1xSlots, t1xClaims, t1xTrials, t1xChain, t1xBook, t1xNow⟩ : House).Trials.map cTrial), .imm 5 ((⟨t1xNo, t1xFinds, t1xSecrets, t1xSlots, t1xClaims, t1xTrials, t1xChain, t1xBook, t1xNow⟩ : House).Chain.map cHand), .imm 4 ((⟨t1xNo, t1xFinds, t1xSecrets, t1xSlots, t1xClaims, t1xTrials, t1xChain, t1xBook, t1xNow⟩ : House).Book.map cEntry), .i .i64 (⟨t1xNo, t1xFinds, t1xSecrets, t1xSlots, t1xClaims, t1xTrials, t1xChain, t1xBook, t1xNow⟩ : House).Now])])) (evO (fun (zr : Bool) => (XE.ret, frm [(2, .b zr)], [])) (fun (zr : Unit) => (XE.exit 4, frm [], []))) ?_ t7
  intro t7
  simp -dsimp +contextual only [↓evA, evB, evT, tys, encs, Nat.reduceAdd, Nat.reduceMul, Nat.reduceBEq, Nat.reduceLeDiff, Nat.reduceLT, TP, orc_p, orc_l, e_spec_FindThing]
  try simp only [spec_l33Things_l16, evT, encs, c_js, r_map_some, e_need_t]
  all_goals rfl
theorem e_spec_l33Things (n : Nat) (vhxNo : Int) {R1} {vhxFinds : List Find} {R2} {vhxSecrets : List Secret} {R3} {vhxSlots : List Slot} {R4} {vhxClaims : List Claim} {R5} {vhxTrials : List Trial} {R6} {vhxChain : List Hand} {R7} {vhxBook : List Entry} (vhxNow : Int) [H1 : EncL cFind R1 vhxFinds] [H2 : EncL cSecret R2 vhxSecrets] [H3 : EncL cSlot R3 vhxSlots] [H4 : EncL cClaim R4 vhxClaims] [H5 : EncL cTrial R5 vhxTrials] [H6 : EncL cHand R6 vhxChain] [H7 : EncL cEntry R7 vhxBook] : CP T (n + 10) 130 [.agg [.i .i64 vhxNo, .imm 8 R1, .imm 3 R2, .imm 3 R3, .imm 5 R4, .imm 4 R5, .imm 5 R6, .imm 4 R7, .i .i64 vhxNow]] = (spec_l33Things (⟨vhxNo, vhxFinds, vhxSecrets, vhxSlots, vhxClaims, vhxTrials, vhxChain, vhxBook, vhxNow⟩ : House)).map fun r => .b r := by
  obtain ⟨rfl⟩ := H1
  obtain ⟨rfl⟩ := H2
  obtain ⟨rfl⟩ := H3
  obtain ⟨rfl⟩ := H4
  obtain ⟨rfl⟩ := H5
  obtain ⟨rfl⟩ := H6
  obtain ⟨rfl⟩ := H7
  rw [CP_eq]
  simp -dsimp +contextual only [↓evA, evB, evT, tys, encs, Nat.reduceAdd, Nat.reduceMul, Nat.reduceBEq, Nat.reduceLeDiff, Nat.reduceLT, Tryz.func130, Tryz.f130, a130, TP, orc_p, orc_l, e_spec_InHouse, e_spec_l33Things_l5, e_spec_l33Things_l10, e_spec_l33Things_l16]
  try simp only [spec_l33Things, evT, encs, c_js, r_map_some, e_need_t]
  all_goals rfl
theorem e_spec_IsTrial (n : Nat) (xxClaim : Int) (xxAsked : Int) (xxRight : Int) (xxWrong : Int) : CP T (n + 2) 182 [.agg [.i .i64 xxClaim, .i .i64 xxAsked, .i .i64 xxRight, .i .i64 xxWrong]] = (spec_IsTrial (⟨xxClaim, xxAsked, xxRight, xxWrong⟩ : Trial)).map fun r => .b r := by
  rw [CP_eq]
  simp -dsimp +contextual only [↓evA, evB, evT, tys, encs, Nat.reduceAdd, Nat.reduceMul, Nat.reduceBEq, Nat.reduceLeDiff, Nat.reduceLT, Tryz.func182, Tryz.f182, a182, TP, orc_p, orc_l, e_spec_l1In]
  try simp only [spec_IsTrial, evT, encs, c_js, r_map_some, e_need_t]
  all_goals rfl
theorem e_spec_l31Find_l2 (n : Nat) {R1} {l : List Secret} (thing : Int) (i : Int) [H1 : EncL cSecret R1 l] : LP T (n + 1) 179 2 (frm [(0, .imm 3 R1), (1, .i .i64 thing), (5, .i .i64 i)]) [] =
    lmap (run (spec_l31Find_l2 l thing) i) (fun (zr : Int) => (XE.ret, frm [(4, .i .i64 zr)], [])) (fun (zr : Unit) => (XE.exit 0, frm [], [])) := by
  obtain ⟨rfl⟩ := H1
  rw [LP_eq]
  simp -dsimp only [↓evA, evB, lpG_eq, Tryz.func179, Tryz.f179, a179, TP, Nat.reduceAdd, Nat.reduceMul, Nat.reduceBEq, Nat.reduceLeDiff, Nat.reduceLT]
  refine run_map (fun (zs : Int) => (frm [(0, .imm 3 (l.map cSecret)), (1, .i .i64 thing), (5, .i .i64 zs)], [])) (evO (fun (zr : Int) => (XE.ret, frm [(4, .i .i64 zr)], [])) (fun (zr : Unit) => (XE.exit 0, frm [], []))) ?_ i
  intro i
  simp -dsimp +contextual only [↓evA, evB, evT, tys, encs, Nat.reduceAdd, Nat.reduceMul, Nat.reduceBEq, Nat.reduceLeDiff, Nat.reduceLT, TP, orc_p, orc_l]
  try simp only [spec_l31Find_l2, evT, encs, c_js, r_map_some, e_need_t]
  all_goals rfl
theorem e_spec_l31Find (n : Nat) {R1} {l : List Secret} (thing : Int) [H1 : EncL cSecret R1 l] : CP T (n + 2) 179 [.imm 3 R1, .i .i64 thing] = (spec_l31Find l thing).map fun r => .i .i64 r := by
  obtain ⟨rfl⟩ := H1
  rw [CP_eq]
  simp -dsimp +contextual only [↓evA, evB, evT, tys, encs, Nat.reduceAdd, Nat.reduceMul, Nat.reduceBEq, Nat.reduceLeDiff, Nat.reduceLT, Tryz.func179, Tryz.f179, a179, TP, orc_p, orc_l, e_spec_l31Find_l2]
  try simp only [spec_l31Find, evT, encs, c_js, r_map_some, e_need_t]
  all_goals rfl
theorem e_spec_MarksOf (n : Nat) {R1} {l : List Secret} (thing : Int) [H1 : EncL cSecret R1 l] : CP T (n + 3) 86 [.imm 3 R1, .i .i64 thing] = (spec_MarksOf l thing).map fun r => .own 2 (r.map cMark) := by
  obtain ⟨rfl⟩ := H1
  rw [CP_eq]
  simp -dsimp +contextual only [↓evA, evB, evT, tys, encs, Nat.reduceAdd, Nat.reduceMul, Nat.reduceBEq, Nat.reduceLeDiff, Nat.reduceLT, Tryz.func86, Tryz.f86, a86, TP, orc_p, orc_l, e_spec_l31Find]
  try simp only [spec_MarksOf, evT, encs, c_js, r_map_some, e_need_t]
  all_goals rfl
theorem e_spec_Min (n : Nat) (a : Int) (b : Int) : CP T (n + 1) 204 [.i .i64 a, .i .i64 b] = (spec_Min a b).map fun r => .i .i64 r := by
  rw [CP_eq]
  simp -dsimp +contextual only [↓evA, evB, evT, tys, encs, Nat.reduceAdd, Nat.reduceMul, Nat.reduceBEq, Nat.reduceLeDiff, Nat.reduceLT, Tryz.func204, Tryz.f204, a204, TP, orc_p, orc_l]
  try simp only [spec_Min, evT, encs, c_js, r_map_some, e_need_t]
  all_goals rfl
theorem e_spec_NeedFor (n : Nat) {R1} {l : List Mark} [H1 : EncL cMark R1 l] : CP T (n + 2) 184 [.imm 2 R1] = (spec_NeedFor l).map fun r => .i .i64 r := by
  obtain ⟨rfl⟩ := H1
  rw [CP_eq]
  simp -dsimp +contextual only [↓evA, evB, evT, tys, encs, Nat.reduceAdd, Nat.reduceMul, Nat.reduceBEq, Nat.reduceLeDiff, Nat.reduceLT, Tryz.func184, Tryz.f184, a184, TP, orc_p, orc_l, e_spec_Min]
  try simp only [spec_NeedFor, evT, encs, c_js, r_map_some, e_need_t]
  all_goals rfl
theorem e_spec_TrialState (n : Nat) {R1} {l : List Mark} (xxClaim : Int) (xxAsked : Int) (xxRight : Int) (xxWrong : Int) [H1 : EncL cMark R1 l] : CP T (n + 4) 88 [.imm 2 R1, .agg [.i .i64 xxClaim, .i .i64 xxAsked, .i .i64 xxRight, .i .i64 xxWrong]] = (spec_TrialState l (⟨xxClaim, xxAsked, xxRight, xxWrong⟩ : Trial)).map fun r => .i .i64 r := by
  obtain ⟨rfl⟩ := H1
  rw [CP_eq]
  simp -dsimp +contextual only [↓evA, evB, evT, tys, encs, Nat.reduceAdd, Nat.reduceMul, Nat.reduceBEq, Nat.reduceLeDiff, Nat.reduceLT, Tryz.func88, Tryz.f88, a88, TP, orc_p, orc_l, e_spec_IsTrial, e_spec_AreMarks, e_spec_NeedFor]
  try simp only [spec_TrialState, evT, encs, c_js, r_map_some, e_need_t]
  all_goals rfl
theorem e_spec_l33Claims_l4 (n : Nat) (t1xNo : Int) {R1} {t1xFinds : List Find} {R2} {t1xSecrets : List Secret} {R3} {t1xSlots : List Slot} {R4} {t1xClaims : List Claim} {R5} {t1xTrials : List Trial} {R6} {t1xChain : List Hand} {R7} {t1xBook : List Entry} (t1xNow : Int) (t3 : Int) [H1 : EncL cFind R1 t1xFinds] [H2 : EncL cSecret R2 t1xSecrets] [H3 : EncL cSlot R3 t1xSlots] [H4 : EncL cClaim R4 t1xClaims] [H5 : EncL cTrial R5 t1xTrials] [H6 : EncL cHand R6 t1xChain] [H7 : EncL cEntry R7 t1xBook] : LP T (n + 5) 131 4 (frm [(1, .ptr 0 0 0), (3, .i .i64 t3)]) [some (Ent.box [.i .i64 t1xNo, .imm 8 R1, .imm 3 R2, .imm 3 R3, .imm 5 R4, .imm 4 R5, .imm 5 R6, .imm 4 R7, .i .i64 t1xNow])] =
    lmap (run (spec_l33Claims_l4 (⟨t1xNo, t1xFinds, t1xSecrets, t1xSlots, t1xClaims, t1xTrials, t1xChain, t1xBook, t1xNow⟩ : House)) t3) (fun (zr : Bool) => (XE.ret, frm [(2, .b zr)], [])) (fun (zr : Unit) => (XE.exit 0, frm [], [])) := by
  obtain ⟨rfl⟩ := H1
  obtain ⟨rfl⟩ := H2
  obtain ⟨rfl⟩ := H3
  obtain ⟨rfl⟩ := H4
  obtain ⟨rfl⟩ := H5
  obtain ⟨rfl⟩ := H6
  obtain ⟨rfl⟩ := H7
  rw [LP_eq]
  simp -dsimp only [↓evA, evB, lpG_eq, Tryz.func131, Tryz.f131, a131, TP, Nat.reduceAdd, Nat.reduceMul, Nat.reduceBEq, Nat.reduceLeDiff, Nat.reduceLT]
  refine run_map (fun (zs : Int) => (frm [(1, .ptr 0 0 0), (3, .i .i64 zs)], [some (Ent.box [.i .i64 (⟨t1xNo, t1xFinds, t1xSecrets, t1xSlots, t1xClaims, t1xTrials, t1xChain, t1xBook, t1xNow⟩ : House).No, .imm 8 ((⟨t1xNo, t1xFinds, t1xSecrets, t1xSlots, t1xClaims, t1xTrials, t1xChain, t1xBook, t1xNow⟩ : House).Finds.map cFind), .imm 3 ((⟨t1xNo, t1xFinds, t1xSecrets, t1xSlots, t1xClaims, t1xTrials, t1xChain, t1xBook, t1xNow⟩ : House).Secrets.map cSecret), .imm 3 ((⟨t1xNo, t1xFinds, t1xSecrets, t1xSlots, t1xClaims, t1xTrials, t1xChain, t1xBook, t1xNow⟩ : House).Slots.map cSlot), .imm 5 ((⟨t1xNo, t1xFinds, t1xSecrets, t1xSlots, t1xClaims, t1xTrials, t1xChain, t1xBook, t1xNow⟩ : House).Claims.map cClaim), .imm 4 ((⟨t1xNo, t1xFinds, t1xSecrets, t1xSlots, t1xClaims, t1xTrials, t1xChain, t1xBook, t1xNow⟩ : House).Trials.map cTrial), .imm 5 ((⟨t1xNo, t1xFinds, t1xSecrets, t1xSlots, t1xClaims, t1xTrials, t1xChain, t1xBook, t1xNow⟩ : House).Chain.map cHand), .imm 4 ((⟨t1xNo, t1xFinds, t1xSecrets, t1xSlots, t1xClaims, t1xTrials, t1xChain, t1xBook, t1xNow⟩ : House).Book.map cEntry), .i .i64 (⟨t1xNo, t1xFinds, t1xSecrets, t1xSlots, t1xClaims, t1xTrials, t1xChain, t1xBook, t1xNow⟩ : House).Now])])) (evO (fun (zr : Bool) => (XE.ret, frm [(2, .b zr)], [])) (fun (zr : Unit) => (XE.exit 0, frm [], []))) ?_ t3
  intro t3
  simp -dsimp +contextual only [↓evA, evB, evT, tys, encs, Nat.reduceAdd, Nat.reduceMul, Nat.reduceBEq, Nat.reduceLeDiff, Nat.reduceLT, TP, orc_p, orc_l, e_spec_FindThing, e_spec_IsTrial, e_spec_MarksOf, e_spec_TrialState]
  try simp only [spec_l33Claims_l4, evT, encs, c_js, r_map_some, e_need_t]
  all_goals rfl
theorem e_spec_l33Claims (n : Nat) (vhxNo : Int) {R1} {vhxFinds : List Find} {R2} {vhxSecrets : List Secret} {R3} {vhxSlots : List Slot} {R4} {vhxClaims : List Claim} {R5} {vhxTrials : List Trial} {R6} {vhxChain : List Hand} {R7} {vhxBook : List Entry} (vhxNow : Int) [H1 : EncL cFind R1 vhxFinds] [H2 : EncL cSecret R2 vhxSecrets] [H3 : EncL cSlot R3 vhxSlots] [H4 : EncL cClaim R4 vhxClaims] [H5 : EncL cTrial R5 vhxTrials] [H6 : EncL cHand R6 vhxChain] [H7 : EncL cEntry R7 vhxBook] : CP T (n + 6) 131 [.agg [.i .i64 vhxNo, .imm 8 R1, .imm 3 R2, .imm 3 R3, .imm 5 R4, .imm 4 R5, .imm 5 R6, .imm 4 R7, .i .i64 vhxNow]] = (spec_l33Claims (⟨vhxNo, vhxFinds, vhxSecrets, vhxSlots, vhxClaims, vhxTrials, vhxChain, vhxBook, vhxNow⟩ : House)).map fun r => .b r := by
  obtain ⟨rfl⟩ := H1
  obtain ⟨rfl⟩ := H2
  obtain ⟨rfl⟩ := H3
  obtain ⟨rfl⟩ := H4
  obtain ⟨rfl⟩ := H5
  obtain ⟨rfl⟩ := H6
  obtain ⟨rfl⟩ := H7
  rw [CP_eq]
  simp -dsimp +contextual only [↓evA, evB, evT, tys, encs, Nat.reduceAdd, Nat.reduceMul, Nat.reduceBEq, Nat.reduceLeDiff, Nat.reduceLT, Tryz.func131, Tryz.f131, a131, TP, orc_p, orc_l, e_spec_l33Claims_l4]
  try simp only [spec_l33Claims, evT, encs, c_js, r_map_some, e_need_t]
  all_goals rfl
theorem e_spec_IsHouse (n : Nat) (vhxNo : Int) {R1} {vhxFinds : List Find} {R2} {vhxSecrets : List Secret} {R3} {vhxSlots : List Slot} {R4} {vhxClaims : List Claim} {R5} {vhxTrials : List Trial} {R6} {vhxChain : List Hand} {R7} {vhxBook : List Entry} (vhxNow : Int) [H1 : EncL cFind R1 vhxFinds] [H2 : EncL cSecret R2 vhxSecrets] [H3 : EncL cSlot R3 vhxSlots] [H4 : EncL cClaim R4 vhxClaims] [H5 : EncL cTrial R5 vhxTrials] [H6 : EncL cHand R6 vhxChain] [H7 : EncL cEntry R7 vhxBook] : CP T (n + 11) 41 [.agg [.i .i64 vhxNo, .imm 8 R1, .imm 3 R2, .imm 3 R3, .imm 5 R4, .imm 4 R5, .imm 5 R6, .imm 4 R7, .i .i64 vhxNow]] = (spec_IsHouse (⟨vhxNo, vhxFinds, vhxSecrets, vhxSlots, vhxClaims, vhxTrials, vhxChain, vhxBook, vhxNow⟩ : House)).map fun r => .b r := by
  obtain ⟨rfl⟩ := H1
  obtain ⟨rfl⟩ := H2
  obtain ⟨rfl⟩ := H3
  obtain ⟨rfl⟩ := H4
  obtain ⟨rfl⟩ := H5
  obtain ⟨rfl⟩ := H6
  obtain ⟨rfl⟩ := H7
  rw [CP_eq]
  simp -dsimp +contextual only [↓evA, evB, evT, tys, encs, Nat.reduceAdd, Nat.reduceMul, Nat.reduceBEq, Nat.reduceLeDiff, Nat.reduceLT, Tryz.func41, Tryz.f41, a41, TP, orc_p, orc_l, e_spec_l1In, e_spec_AreFinds, e_spec_AreSecrets, e_spec_AreSlots, e_spec_AreClaims, e_spec_IsChain, e_spec_AreEntries, e_spec_l33Things, e_spec_l33Claims]
  try simp only [spec_IsHouse, evT, encs, c_js, r_map_some, e_need_t]
  all_goals rfl
theorem e_spec_HandsOf_l3 (n : Nat) {R1} {l : List Hand} (thing : Int) {R2} {out : List Hand} (i : Int) [H1 : EncL cHand R1 l] [H2 : EncL cHand R2 out] : LP T (n + 1) 133 3 (frm [(0, .imm 5 R1), (1, .i .i64 thing), (5, .sl 0), (6, .i .i64 i)]) [some (Ent.lst 5 R2)] =
    (run (spec_HandsOf_l3 l thing) (out, i)).map (fun (zr : (List Hand)) => (XE.exit 0, frm [(5, .sl 0)], [some (Ent.lst 5 (zr.map cHand))])) := by
  obtain ⟨rfl⟩ := H1
  obtain ⟨rfl⟩ := H2
  rw [LP_eq]
  simp -dsimp only [↓evA, evB, lpG_eq, Tryz.func133, Tryz.f133, a133, TP, Nat.reduceAdd, Nat.reduceMul, Nat.reduceBEq, Nat.reduceLeDiff, Nat.reduceLT]
  refine run_map (fun (zs : (List Hand) × Int) => (frm [(0, .imm 5 (l.map cHand)), (1, .i .i64 thing), (5, .sl 0), (6, .i .i64 zs.2)], [some (Ent.lst 5 (zs.1.map cHand))])) (fun (zr : (List Hand)) => (XE.exit 0, frm [(5, .sl 0)], [some (Ent.lst 5 (zr.map cHand))])) ?_ (out, i)
  rintro ⟨out, i⟩
  simp -dsimp +contextual only [↓evA, evB, evT, tys, encs, Nat.reduceAdd, Nat.reduceMul, Nat.reduceBEq, Nat.reduceLeDiff, Nat.reduceLT, TP, orc_p, orc_l]
  try simp only [spec_HandsOf_l3, evT, encs, c_js, r_map_some, e_need_t]
  all_goals rfl
theorem e_spec_HandsOf (n : Nat) {R1} {l : List Hand} (thing : Int) [H1 : EncL cHand R1 l] : CP T (n + 2) 133 [.imm 5 R1, .i .i64 thing] = (spec_HandsOf l thing).map fun r => .own 5 (r.map cHand) := by
  obtain ⟨rfl⟩ := H1
  rw [CP_eq]
  simp -dsimp +contextual only [↓evA, evB, evT, tys, encs, Nat.reduceAdd, Nat.reduceMul, Nat.reduceBEq, Nat.reduceLeDiff, Nat.reduceLT, Tryz.func133, Tryz.f133, a133, TP, orc_p, orc_l, e_spec_HandsOf_l3]
  try simp only [spec_HandsOf, evT, encs, c_js, r_map_some, e_need_t]
  all_goals rfl
theorem e_spec_IsAccounted_l3 (n : Nat) (vhxNo : Int) {R1} {vhxFinds : List Find} {R2} {vhxSecrets : List Secret} {R3} {vhxSlots : List Slot} {R4} {vhxClaims : List Claim} {R5} {vhxTrials : List Trial} {R6} {vhxChain : List Hand} {R7} {vhxBook : List Entry} (vhxNow : Int) {R8} {vin : List Int} (i : Int) [H1 : EncL cFind R1 vhxFinds] [H2 : EncL cSecret R2 vhxSecrets] [H3 : EncL cSlot R3 vhxSlots] [H4 : EncL cClaim R4 vhxClaims] [H5 : EncL cTrial R5 vhxTrials] [H6 : EncL cHand R6 vhxChain] [H7 : EncL cEntry R7 vhxBook] [H8 : EncL c_i64 R8 vin] : LP T (n + 3) 42 3 (frm [(1, .ptr 0 0 0), (3, .sl 1), (4, .i .i64 i)]) [some (Ent.box [.i .i64 vhxNo, .imm 8 R1, .imm 3 R2, .imm 3 R3, .imm 5 R4, .imm 4 R5, .imm 5 R6, .imm 4 R7, .i .i64 vhxNow]), some (Ent.lst 1 R8)] =
    lmap (run (spec_IsAccounted_l3 (⟨vhxNo, vhxFinds, vhxSecrets, vhxSlots, vhxClaims, vhxTrials, vhxChain, vhxBook, vhxNow⟩ : House) vin) i) (fun (zr : Bool) => (XE.ret, frm [(2, .b zr)], [])) (fun (zr : Unit) => (XE.exit 0, frm [], [])) := by
  obtain ⟨rfl⟩ := H1
  obtain ⟨rfl⟩ := H2
  obtain ⟨rfl⟩ := H3
  obtain ⟨rfl⟩ := H4
  obtain ⟨rfl⟩ := H5
  obtain ⟨rfl⟩ := H6
  obtain ⟨rfl⟩ := H7
  obtain ⟨rfl⟩ := H8
  rw [LP_eq]
  simp -dsimp only [↓evA, evB, lpG_eq, Tryz.func42, Tryz.f42, a42, TP, Nat.reduceAdd, Nat.reduceMul, Nat.reduceBEq, Nat.reduceLeDiff, Nat.reduceLT]
  refine run_map (fun (zs : Int) => (frm [(1, .ptr 0 0 0), (3, .sl 1), (4, .i .i64 zs)], [some (Ent.box [.i .i64 (⟨vhxNo, vhxFinds, vhxSecrets, vhxSlots, vhxClaims, vhxTrials, vhxChain, vhxBook, vhxNow⟩ : House).No, .imm 8 ((⟨vhxNo, vhxFinds, vhxSecrets, vhxSlots, vhxClaims, vhxTrials, vhxChain, vhxBook, vhxNow⟩ : House).Finds.map cFind), .imm 3 ((⟨vhxNo, vhxFinds, vhxSecrets, vhxSlots, vhxClaims, vhxTrials, vhxChain, vhxBook, vhxNow⟩ : House).Secrets.map cSecret), .imm 3 ((⟨vhxNo, vhxFinds, vhxSecrets, vhxSlots, vhxClaims, vhxTrials, vhxChain, vhxBook, vhxNow⟩ : House).Slots.map cSlot), .imm 5 ((⟨vhxNo, vhxFinds, vhxSecrets, vhxSlots, vhxClaims, vhxTrials, vhxChain, vhxBook, vhxNow⟩ : House).Claims.map cClaim), .imm 4 ((⟨vhxNo, vhxFinds, vhxSecrets, vhxSlots, vhxClaims, vhxTrials, vhxChain, vhxBook, vhxNow⟩ : House).Trials.map cTrial), .imm 5 ((⟨vhxNo, vhxFinds, vhxSecrets, vhxSlots, vhxClaims, vhxTrials, vhxChain, vhxBook, vhxNow⟩ : House).Chain.map cHand), .imm 4 ((⟨vhxNo, vhxFinds, vhxSecrets, vhxSlots, vhxClaims, vhxTrials, vhxChain, vhxBook, vhxNow⟩ : House).Book.map cEntry), .i .i64 (⟨vhxNo, vhxFinds, vhxSecrets, vhxSlots, vhxClaims, vhxTrials, vhxChain, vhxBook, vhxNow⟩ : House).Now]), some (Ent.lst 1 (vin.map c_i64))])) (evO (fun (zr : Bool) => (XE.ret, frm [(2, .b zr)], [])) (fun (zr : Unit) => (XE.exit 0, frm [], []))) ?_ i
  intro i
  simp -dsimp +contextual only [↓evA, evB, evT, tys, encs, Nat.reduceAdd, Nat.reduceMul, Nat.reduceBEq, Nat.reduceLeDiff, Nat.reduceLT, TP, orc_p, orc_l, e_spec_HandsOf, e_spec_SlotOf, e_spec_l8Has]
  try simp only [spec_IsAccounted_l3, evT, encs, c_js, r_map_some, e_need_t]
  all_goals rfl
theorem e_spec_IsAccounted (n : Nat) (vhxNo : Int) {R1} {vhxFinds : List Find} {R2} {vhxSecrets : List Secret} {R3} {vhxSlots : List Slot} {R4} {vhxClaims : List Claim} {R5} {vhxTrials : List Trial} {R6} {vhxChain : List Hand} {R7} {vhxBook : List Entry} (vhxNow : Int) [H1 : EncL cFind R1 vhxFinds] [H2 : EncL cSecret R2 vhxSecrets] [H3 : EncL cSlot R3 vhxSlots] [H4 : EncL cClaim R4 vhxClaims] [H5 : EncL cTrial R5 vhxTrials] [H6 : EncL cHand R6 vhxChain] [H7 : EncL cEntry R7 vhxBook] : CP T (n + 10) 42 [.agg [.i .i64 vhxNo, .imm 8 R1, .imm 3 R2, .imm 3 R3, .imm 5 R4, .imm 4 R5, .imm 5 R6, .imm 4 R7, .i .i64 vhxNow]] = (spec_IsAccounted (⟨vhxNo, vhxFinds, vhxSecrets, vhxSlots, vhxClaims, vhxTrials, vhxChain, vhxBook, vhxNow⟩ : House)).map fun r => .b r := by
  obtain ⟨rfl⟩ := H1
  obtain ⟨rfl⟩ := H2
  obtain ⟨rfl⟩ := H3
  obtain ⟨rfl⟩ := H4
  obtain ⟨rfl⟩ := H5
  obtain ⟨rfl⟩ := H6
  obtain ⟨rfl⟩ := H7
  rw [CP_eq]
  simp -dsimp +contextual only [↓evA, evB, evT, tys, encs, Nat.reduceAdd, Nat.reduceMul, Nat.reduceBEq, Nat.reduceLeDiff, Nat.reduceLT, Tryz.func42, Tryz.f42, a42, TP, orc_p, orc_l, e_spec_InHouse, e_spec_IsAccounted_l3]
  try simp only [spec_IsAccounted, evT, encs, c_js, r_map_some, e_need_t]
  all_goals rfl
theorem e_spec_l36Claimed_l2 (n : Nat) (vhxNo : Int) {R1} {vhxFinds : List Find} {R2} {vhxSecrets : List Secret} {R3} {vhxSlots : List Slot} {R4} {vhxClaims : List Claim} {R5} {vhxTrials : List Trial} {R6} {vhxChain : List Hand} {R7} {vhxBook : List Entry} (vhxNow : Int) (xxThing : Int) (xxHolder : Int) (xxWho : Int) (xxAt : Int) (xxSeal : Int) (i : Int) [H1 : EncL cFind R1 vhxFinds] [H2 : EncL cSecret R2 vhxSecrets] [H3 : EncL cSlot R3 vhxSlots] [H4 : EncL cClaim R4 vhxClaims] [H5 : EncL cTrial R5 vhxTrials] [H6 : EncL cHand R6 vhxChain] [H7 : EncL cEntry R7 vhxBook] : LP T (n + 1) 135 2 (frm [(2, .ptr 0 0 0), (3, .ptr 1 0 0), (5, .i .i64 i)]) [some (Ent.box [.i .i64 vhxNo, .imm 8 R1, .imm 3 R2, .imm 3 R3, .imm 5 R4, .imm 4 R5, .imm 5 R6, .imm 4 R7, .i .i64 vhxNow]), some (Ent.box [.i .i64 xxThing, .i .i64 xxHolder, .i .i64 xxWho, .i .i64 xxAt, .i .i64 xxSeal])] =
    lmap (run (spec_l36Claimed_l2 (⟨vhxNo, vhxFinds, vhxSecrets, vhxSlots, vhxClaims, vhxTrials, vhxChain, vhxBook, vhxNow⟩ : House) (⟨xxThing, xxHolder, xxWho, xxAt, xxSeal⟩ : Hand)) i) (fun (zr : Bool) => (XE.ret, frm [(4, .b zr)], [])) (fun (zr : Unit) => (XE.exit 0, frm [], [])) := by
  obtain ⟨rfl⟩ := H1
  obtain ⟨rfl⟩ := H2
  obtain ⟨rfl⟩ := H3
  obtain ⟨rfl⟩ := H4
  obtain ⟨rfl⟩ := H5
  obtain ⟨rfl⟩ := H6
  obtain ⟨rfl⟩ := H7
  rw [LP_eq]
  simp -dsimp only [↓evA, evB, lpG_eq, Tryz.func135, Tryz.f135, a135, TP, Nat.reduceAdd, Nat.reduceMul, Nat.reduceBEq, Nat.reduceLeDiff, Nat.reduceLT]
  refine run_map (fun (zs : Int) => (frm [(2, .ptr 0 0 0), (3, .ptr 1 0 0), (5, .i .i64 zs)], [some (Ent.box [.i .i64 (⟨vhxNo, vhxFinds, vhxSecrets, vhxSlots, vhxClaims, vhxTrials, vhxChain, vhxBook, vhxNow⟩ : House).No, .imm 8 ((⟨vhxNo, vhxFinds, vhxSecrets, vhxSlots, vhxClaims, vhxTrials, vhxChain, vhxBook, vhxNow⟩ : House).Finds.map cFind), .imm 3 ((⟨vhxNo, vhxFinds, vhxSecrets, vhxSlots, vhxClaims, vhxTrials, vhxChain, vhxBook, vhxNow⟩ : House).Secrets.map cSecret), .imm 3 ((⟨vhxNo, vhxFinds, vhxSecrets, vhxSlots, vhxClaims, vhxTrials, vhxChain, vhxBook, vhxNow⟩ : House).Slots.map cSlot), .imm 5 ((⟨vhxNo, vhxFinds, vhxSecrets, vhxSlots, vhxClaims, vhxTrials, vhxChain, vhxBook, vhxNow⟩ : House).Claims.map cClaim), .imm 4 ((⟨vhxNo, vhxFinds, vhxSecrets, vhxSlots, vhxClaims, vhxTrials, vhxChain, vhxBook, vhxNow⟩ : House).Trials.map cTrial), .imm 5 ((⟨vhxNo, vhxFinds, vhxSecrets, vhxSlots, vhxClaims, vhxTrials, vhxChain, vhxBook, vhxNow⟩ : House).Chain.map cHand), .imm 4 ((⟨vhxNo, vhxFinds, vhxSecrets, vhxSlots, vhxClaims, vhxTrials, vhxChain, vhxBook, vhxNow⟩ : House).Book.map cEntry), .i .i64 (⟨vhxNo, vhxFinds, vhxSecrets, vhxSlots, vhxClaims, vhxTrials, vhxChain, vhxBook, vhxNow⟩ : House).Now]), some (Ent.box [.i .i64 (⟨xxThing, xxHolder, xxWho, xxAt, xxSeal⟩ : Hand).Thing, .i .i64 (⟨xxThing, xxHolder, xxWho, xxAt, xxSeal⟩ : Hand).Holder, .i .i64 (⟨xxThing, xxHolder, xxWho, xxAt, xxSeal⟩ : Hand).Who, .i .i64 (⟨xxThing, xxHolder, xxWho, xxAt, xxSeal⟩ : Hand).At, .i .i64 (⟨xxThing, xxHolder, xxWho, xxAt, xxSeal⟩ : Hand).Seal])])) (evO (fun (zr : Bool) => (XE.ret, frm [(4, .b zr)], [])) (fun (zr : Unit) => (XE.exit 0, frm [], []))) ?_ i
  intro i
  simp -dsimp +contextual only [↓evA, evB, evT, tys, encs, Nat.reduceAdd, Nat.reduceMul, Nat.reduceBEq, Nat.reduceLeDiff, Nat.reduceLT, TP, orc_p, orc_l]
  try simp only [spec_l36Claimed_l2, evT, encs, c_js, r_map_some, e_need_t]
  all_goals rfl
theorem e_spec_l36Claimed (n : Nat) (vhxNo : Int) {R1} {vhxFinds : List Find} {R2} {vhxSecrets : List Secret} {R3} {vhxSlots : List Slot} {R4} {vhxClaims : List Claim} {R5} {vhxTrials : List Trial} {R6} {vhxChain : List Hand} {R7} {vhxBook : List Entry} (vhxNow : Int) (xxThing : Int) (xxHolder : Int) (xxWho : Int) (xxAt : Int) (xxSeal : Int) [H1 : EncL cFind R1 vhxFinds] [H2 : EncL cSecret R2 vhxSecrets] [H3 : EncL cSlot R3 vhxSlots] [H4 : EncL cClaim R4 vhxClaims] [H5 : EncL cTrial R5 vhxTrials] [H6 : EncL cHand R6 vhxChain] [H7 : EncL cEntry R7 vhxBook] : CP T (n + 2) 135 [.agg [.i .i64 vhxNo, .imm 8 R1, .imm 3 R2, .imm 3 R3, .imm 5 R4, .imm 4 R5, .imm 5 R6, .imm 4 R7, .i .i64 vhxNow], .agg [.i .i64 xxThing, .i .i64 xxHolder, .i .i64 xxWho, .i .i64 xxAt, .i .i64 xxSeal]] = (spec_l36Claimed (⟨vhxNo, vhxFinds, vhxSecrets, vhxSlots, vhxClaims, vhxTrials, vhxChain, vhxBook, vhxNow⟩ : House) (⟨xxThing, xxHolder, xxWho, xxAt, xxSeal⟩ : Hand)).map fun r => .b r := by
  obtain ⟨rfl⟩ := H1
  obtain ⟨rfl⟩ := H2
  obtain ⟨rfl⟩ := H3
  obtain ⟨rfl⟩ := H4
  obtain ⟨rfl⟩ := H5
  obtain ⟨rfl⟩ := H6
  obtain ⟨rfl⟩ := H7
  rw [CP_eq]
  simp -dsimp +contextual only [↓evA, evB, evT, tys, encs, Nat.reduceAdd, Nat.reduceMul, Nat.reduceBEq, Nat.reduceLeDiff, Nat.reduceLT, Tryz.func135, Tryz.f135, a135, TP, orc_p, orc_l, e_spec_l36Claimed_l2]
  try simp only [spec_l36Claimed, evT, encs, c_js, r_map_some, e_need_t]
  all_goals rfl
theorem e_spec_AreOwners_l2 (n : Nat) (vhxNo : Int) {R1} {vhxFinds : List Find} {R2} {vhxSecrets : List Secret} {R3} {vhxSlots : List Slot} {R4} {vhxClaims : List Claim} {R5} {vhxTrials : List Trial} {R6} {vhxChain : List Hand} {R7} {vhxBook : List Entry} (vhxNow : Int) (i : Int) [H1 : EncL cFind R1 vhxFinds] [H2 : EncL cSecret R2 vhxSecrets] [H3 : EncL cSlot R3 vhxSlots] [H4 : EncL cClaim R4 vhxClaims] [H5 : EncL cTrial R5 vhxTrials] [H6 : EncL cHand R6 vhxChain] [H7 : EncL cEntry R7 vhxBook] : LP T (n + 3) 43 2 (frm [(1, .ptr 0 0 0), (3, .i .i64 i)]) [some (Ent.box [.i .i64 vhxNo, .imm 8 R1, .imm 3 R2, .imm 3 R3, .imm 5 R4, .imm 4 R5, .imm 5 R6, .imm 4 R7, .i .i64 vhxNow])] =
    lmap (run (spec_AreOwners_l2 (⟨vhxNo, vhxFinds, vhxSecrets, vhxSlots, vhxClaims, vhxTrials, vhxChain, vhxBook, vhxNow⟩ : House)) i) (fun (zr : Bool) => (XE.ret, frm [(2, .b zr)], [])) (fun (zr : Unit) => (XE.exit 0, frm [], [])) := by
  obtain ⟨rfl⟩ := H1
  obtain ⟨rfl⟩ := H2
  obtain ⟨rfl⟩ := H3
  obtain ⟨rfl⟩ := H4
  obtain ⟨rfl⟩ := H5
  obtain ⟨rfl⟩ := H6
  obtain ⟨rfl⟩ := H7
  rw [LP_eq]
  simp -dsimp only [↓evA, evB, lpG_eq, Tryz.func43, Tryz.f43, a43, TP, Nat.reduceAdd, Nat.reduceMul, Nat.reduceBEq, Nat.reduceLeDiff, Nat.reduceLT]
  refine run_map (fun (zs : Int) => (frm [(1, .ptr 0 0 0), (3, .i .i64 zs)], [some (Ent.box [.i .i64 (⟨vhxNo, vhxFinds, vhxSecrets, vhxSlots, vhxClaims, vhxTrials, vhxChain, vhxBook, vhxNow⟩ : House).No, .imm 8 ((⟨vhxNo, vhxFinds, vhxSecrets, vhxSlots, vhxClaims, vhxTrials, vhxChain, vhxBook, vhxNow⟩ : House).Finds.map cFind), .imm 3 ((⟨vhxNo, vhxFinds, vhxSecrets, vhxSlots, vhxClaims, vhxTrials, vhxChain, vhxBook, vhxNow⟩ : House).Secrets.map cSecret), .imm 3 ((⟨vhxNo, vhxFinds, vhxSecrets, vhxSlots, vhxClaims, vhxTrials, vhxChain, vhxBook, vhxNow⟩ : House).Slots.map cSlot), .imm 5 ((⟨vhxNo, vhxFinds, vhxSecrets, vhxSlots, vhxClaims, vhxTrials, vhxChain, vhxBook, vhxNow⟩ : House).Claims.map cClaim), .imm 4 ((⟨vhxNo, vhxFinds, vhxSecrets, vhxSlots, vhxClaims, vhxTrials, vhxChain, vhxBook, vhxNow⟩ : House).Trials.map cTrial), .imm 5 ((⟨vhxNo, vhxFinds, vhxSecrets, vhxSlots, vhxClaims, vhxTrials, vhxChain, vhxBook, vhxNow⟩ : House).Chain.map cHand), .imm 4 ((⟨vhxNo, vhxFinds, vhxSecrets, vhxSlots, vhxClaims, vhxTrials, vhxChain, vhxBook, vhxNow⟩ : House).Book.map cEntry), .i .i64 (⟨vhxNo, vhxFinds, vhxSecrets, vhxSlots, vhxClaims, vhxTrials, vhxChain, vhxBook, vhxNow⟩ : House).Now])])) (evO (fun (zr : Bool) => (XE.ret, frm [(2, .b zr)], [])) (fun (zr : Unit) => (XE.exit 0, frm [], []))) ?_ i
  intro i
  simp -dsimp +contextual only [↓evA, evB, evT, tys, encs, Nat.reduceAdd, Nat.reduceMul, Nat.reduceBEq, Nat.reduceLeDiff, Nat.reduceLT, TP, orc_p, orc_l, e_spec_FindThing, e_spec_l36Claimed]
  try simp only [spec_AreOwners_l2, evT, encs, c_js, r_map_some, e_need_t]
  all_goals rfl
theorem e_spec_AreOwners (n : Nat) (vhxNo : Int) {R1} {vhxFinds : List Find} {R2} {vhxSecrets : List Secret} {R3} {vhxSlots : List Slot} {R4} {vhxClaims : List Claim} {R5} {vhxTrials : List Trial} {R6} {vhxChain : List Hand} {R7} {vhxBook : List Entry} (vhxNow : Int) [H1 : EncL cFind R1 vhxFinds] [H2 : EncL cSecret R2 vhxSecrets] [H3 : EncL cSlot R3 vhxSlots] [H4 : EncL cClaim R4 vhxClaims] [H5 : EncL cTrial R5 vhxTrials] [H6 : EncL cHand R6 vhxChain] [H7 : EncL cEntry R7 vhxBook] : CP T (n + 4) 43 [.agg [.i .i64 vhxNo, .imm 8 R1, .imm 3 R2, .imm 3 R3, .imm 5 R4, .imm 4 R5, .imm 5 R6, .imm 4 R7, .i .i64 vhxNow]] = (spec_AreOwners (⟨vhxNo, vhxFinds, vhxSecrets, vhxSlots, vhxClaims, vhxTrials, vhxChain, vhxBook, vhxNow⟩ : House)).map fun r => .b r := by
  obtain ⟨rfl⟩ := H1
  obtain ⟨rfl⟩ := H2
  obtain ⟨rfl⟩ := H3
  obtain ⟨rfl⟩ := H4
  obtain ⟨rfl⟩ := H5
  obtain ⟨rfl⟩ := H6
  obtain ⟨rfl⟩ := H7
  rw [CP_eq]
  simp -dsimp +contextual only [↓evA, evB, evT, tys, encs, Nat.reduceAdd, Nat.reduceMul, Nat.reduceBEq, Nat.reduceLeDiff, Nat.reduceLT, Tryz.func43, Tryz.f43, a43, TP, orc_p, orc_l, e_spec_AreOwners_l2]
  try simp only [spec_AreOwners, evT, encs, c_js, r_map_some, e_need_t]
  all_goals rfl
theorem e_spec_KeepDays (n : Nat) (kind : Int) : CP T (n + 2) 245 [.i .i64 kind] = (spec_KeepDays kind).map fun r => .i .i64 r := by
  rw [CP_eq]
  simp -dsimp +contextual only [↓evA, evB, evT, tys, encs, Nat.reduceAdd, Nat.reduceMul, Nat.reduceBEq, Nat.reduceLeDiff, Nat.reduceLT, Tryz.func245, Tryz.f245, a245, TP, orc_p, orc_l, e_spec_l1In]
  try simp only [spec_KeepDays, evT, encs, c_js, r_map_some, e_need_t]
  all_goals rfl
theorem e_spec_DueHour (n : Nat) (fxThingxId : Int) (fxThingxKind : Int) (fxThingxColour : Int) (fxThingxSize : Int) (fxThingxWorth : Int) (fxPlace : Int) (fxAt : Int) (fxFinder : Int) : CP T (n + 4) 217 [.agg [.i .i64 fxThingxId, .i .i64 fxThingxKind, .i .i64 fxThingxColour, .i .i64 fxThingxSize, .i .i64 fxThingxWorth, .i .i64 fxPlace, .i .i64 fxAt, .i .i64 fxFinder]] = (spec_DueHour (⟨⟨fxThingxId, fxThingxKind, fxThingxColour, fxThingxSize, fxThingxWorth⟩, fxPlace, fxAt, fxFinder⟩ : Find)).map fun r => .i .i64 r := by
  rw [CP_eq]
  simp -dsimp +contextual only [↓evA, evB, evT, tys, encs, Nat.reduceAdd, Nat.reduceMul, Nat.reduceBEq, Nat.reduceLeDiff, Nat.reduceLT, Tryz.func217, Tryz.f217, a217, TP, orc_p, orc_l, e_spec_IsFind, e_spec_KeepDays]
  try simp only [spec_DueHour, evT, encs, c_js, r_map_some, e_need_t]
  all_goals rfl
theorem e_spec_IsDue (n : Nat) (fxThingxId : Int) (fxThingxKind : Int) (fxThingxColour : Int) (fxThingxSize : Int) (fxThingxWorth : Int) (fxPlace : Int) (fxAt : Int) (fxFinder : Int) (now : Int) : CP T (n + 5) 136 [.agg [.i .i64 fxThingxId, .i .i64 fxThingxKind, .i .i64 fxThingxColour, .i .i64 fxThingxSize, .i .i64 fxThingxWorth, .i .i64 fxPlace, .i .i64 fxAt, .i .i64 fxFinder], .i .i64 now] = (spec_IsDue (⟨⟨fxThingxId, fxThingxKind, fxThingxColour, fxThingxSize, fxThingxWorth⟩, fxPlace, fxAt, fxFinder⟩ : Find) now).map fun r => .b r := by
  rw [CP_eq]
  simp -dsimp +contextual only [↓evA, evB, evT, tys, encs, Nat.reduceAdd, Nat.reduceMul, Nat.reduceBEq, Nat.reduceLeDiff, Nat.reduceLT, Tryz.func136, Tryz.f136, a136, TP, orc_p, orc_l, e_spec_IsFind, e_spec_DueHour]
  try simp only [spec_IsDue, evT, encs, c_js, r_map_some, e_need_t]
  all_goals rfl
theorem e_spec_IsNeverEarly_l2 (n : Nat) (vhxNo : Int) {R1} {vhxFinds : List Find} {R2} {vhxSecrets : List Secret} {R3} {vhxSlots : List Slot} {R4} {vhxClaims : List Claim} {R5} {vhxTrials : List Trial} {R6} {vhxChain : List Hand} {R7} {vhxBook : List Entry} (vhxNow : Int) (i : Int) [H1 : EncL cFind R1 vhxFinds] [H2 : EncL cSecret R2 vhxSecrets] [H3 : EncL cSlot R3 vhxSlots] [H4 : EncL cClaim R4 vhxClaims] [H5 : EncL cTrial R5 vhxTrials] [H6 : EncL cHand R6 vhxChain] [H7 : EncL cEntry R7 vhxBook] : LP T (n + 6) 44 2 (frm [(1, .ptr 0 0 0), (3, .i .i64 i)]) [some (Ent.box [.i .i64 vhxNo, .imm 8 R1, .imm 3 R2, .imm 3 R3, .imm 5 R4, .imm 4 R5, .imm 5 R6, .imm 4 R7, .i .i64 vhxNow])] =
    lmap (run (spec_IsNeverEarly_l2 (⟨vhxNo, vhxFinds, vhxSecrets, vhxSlots, vhxClaims, vhxTrials, vhxChain, vhxBook, vhxNow⟩ : House)) i) (fun (zr : Bool) => (XE.ret, frm [(2, .b zr)], [])) (fun (zr : Unit) => (XE.exit 0, frm [], [])) := by
  obtain ⟨rfl⟩ := H1
  obtain ⟨rfl⟩ := H2
  obtain ⟨rfl⟩ := H3
  obtain ⟨rfl⟩ := H4
  obtain ⟨rfl⟩ := H5
  obtain ⟨rfl⟩ := H6
  obtain ⟨rfl⟩ := H7
  rw [LP_eq]
  simp -dsimp only [↓evA, evB, lpG_eq, Tryz.func44, Tryz.f44, a44, TP, Nat.reduceAdd, Nat.reduceMul, Nat.reduceBEq, Nat.reduceLeDiff, Nat.reduceLT]
  refine run_map (fun (zs : Int) => (frm [(1, .ptr 0 0 0), (3, .i .i64 zs)], [some (Ent.box [.i .i64 (⟨vhxNo, vhxFinds, vhxSecrets, vhxSlots, vhxClaims, vhxTrials, vhxChain, vhxBook, vhxNow⟩ : House).No, .imm 8 ((⟨vhxNo, vhxFinds, vhxSecrets, vhxSlots, vhxClaims, vhxTrials, vhxChain, vhxBook, vhxNow⟩ : House).Finds.map cFind), .imm 3 ((⟨vhxNo, vhxFinds, vhxSecrets, vhxSlots, vhxClaims, vhxTrials, vhxChain, vhxBook, vhxNow⟩ : House).Secrets.map cSecret), .imm 3 ((⟨vhxNo, vhxFinds, vhxSecrets, vhxSlots, vhxClaims, vhxTrials, vhxChain, vhxBook, vhxNow⟩ : House).Slots.map cSlot), .imm 5 ((⟨vhxNo, vhxFinds, vhxSecrets, vhxSlots, vhxClaims, vhxTrials, vhxChain, vhxBook, vhxNow⟩ : House).Claims.map cClaim), .imm 4 ((⟨vhxNo, vhxFinds, vhxSecrets, vhxSlots, vhxClaims, vhxTrials, vhxChain, vhxBook, vhxNow⟩ : House).Trials.map cTrial), .imm 5 ((⟨vhxNo, vhxFinds, vhxSecrets, vhxSlots, vhxClaims, vhxTrials, vhxChain, vhxBook, vhxNow⟩ : House).Chain.map cHand), .imm 4 ((⟨vhxNo, vhxFinds, vhxSecrets, vhxSlots, vhxClaims, vhxTrials, vhxChain, vhxBook, vhxNow⟩ : House).Book.map cEntry), .i .i64 (⟨vhxNo, vhxFinds, vhxSecrets, vhxSlots, vhxClaims, vhxTrials, vhxChain, vhxBook, vhxNow⟩ : House).Now])])) (evO (fun (zr : Bool) => (XE.ret, frm [(2, .b zr)], [])) (fun (zr : Unit) => (XE.exit 0, frm [], []))) ?_ i
  intro i
  simp -dsimp +contextual only [↓evA, evB, evT, tys, encs, Nat.reduceAdd, Nat.reduceMul, Nat.reduceBEq, Nat.reduceLeDiff, Nat.reduceLT, TP, orc_p, orc_l, e_spec_FindThing, e_spec_l36Claimed, e_spec_IsDue]
  try simp only [spec_IsNeverEarly_l2, evT, encs, c_js, r_map_some, e_need_t]
  all_goals rfl
theorem e_spec_IsNeverEarly (n : Nat) (vhxNo : Int) {R1} {vhxFinds : List Find} {R2} {vhxSecrets : List Secret} {R3} {vhxSlots : List Slot} {R4} {vhxClaims : List Claim} {R5} {vhxTrials : List Trial} {R6} {vhxChain : List Hand} {R7} {vhxBook : List Entry} (vhxNow : Int) [H1 : EncL cFind R1 vhxFinds] [H2 : EncL cSecret R2 vhxSecrets] [H3 : EncL cSlot R3 vhxSlots] [H4 : EncL cClaim R4 vhxClaims] [H5 : EncL cTrial R5 vhxTrials] [H6 : EncL cHand R6 vhxChain] [H7 : EncL cEntry R7 vhxBook] : CP T (n + 7) 44 [.agg [.i .i64 vhxNo, .imm 8 R1, .imm 3 R2, .imm 3 R3, .imm 5 R4, .imm 4 R5, .imm 5 R6, .imm 4 R7, .i .i64 vhxNow]] = (spec_IsNeverEarly (⟨vhxNo, vhxFinds, vhxSecrets, vhxSlots, vhxClaims, vhxTrials, vhxChain, vhxBook, vhxNow⟩ : House)).map fun r => .b r := by
  obtain ⟨rfl⟩ := H1
  obtain ⟨rfl⟩ := H2
  obtain ⟨rfl⟩ := H3
  obtain ⟨rfl⟩ := H4
  obtain ⟨rfl⟩ := H5
  obtain ⟨rfl⟩ := H6
  obtain ⟨rfl⟩ := H7
  rw [CP_eq]
  simp -dsimp +contextual only [↓evA, evB, evT, tys, encs, Nat.reduceAdd, Nat.reduceMul, Nat.reduceBEq, Nat.reduceLeDiff, Nat.reduceLT, Tryz.func44, Tryz.f44, a44, TP, orc_p, orc_l, e_spec_IsNeverEarly_l2]
  try simp only [spec_IsNeverEarly, evT, encs, c_js, r_map_some, e_need_t]
  all_goals rfl
theorem e_spec_AccountsOf_l3 (n : Nat) {R1} {l : List Entry} {R2} {out : List Int} (i : Int) [H1 : EncL cEntry R1 l] [H2 : EncL c_i64 R2 out] : LP T (n + 3) 137 3 (frm [(0, .imm 4 R1), (3, .sl 0), (4, .i .i64 i)]) [some (Ent.lst 1 R2)] =
    (run (spec_AccountsOf_l3 l) (out, i)).map (fun (zr : (List Int)) => (XE.exit 0, frm [(3, .sl 0)], [some (Ent.lst 1 (zr.map c_i64))])) := by
  obtain ⟨rfl⟩ := H1
  obtain ⟨rfl⟩ := H2
  rw [LP_eq]
  simp -dsimp only [↓evA, evB, lpG_eq, Tryz.func137, Tryz.f137, a137, TP, Nat.reduceAdd, Nat.reduceMul, Nat.reduceBEq, Nat.reduceLeDiff, Nat.reduceLT]
  refine run_map (fun (zs : (List Int) × Int) => (frm [(0, .imm 4 (l.map cEntry)), (3, .sl 0), (4, .i .i64 zs.2)], [some (Ent.lst 1 (zs.1.map c_i64))])) (fun (zr : (List Int)) => (XE.exit 0, frm [(3, .sl 0)], [some (Ent.lst 1 (zr.map c_i64))])) ?_ (out, i)
  rintro ⟨out, i⟩
  simp -dsimp +contextual only [↓evA, evB, evT, tys, encs, Nat.reduceAdd, Nat.reduceMul, Nat.reduceBEq, Nat.reduceLeDiff, Nat.reduceLT, TP, orc_p, orc_l, e_spec_l9Put]
  try simp only [spec_AccountsOf_l3, evT, encs, c_js, r_map_some, e_need_t]
  all_goals rfl
theorem e_spec_AccountsOf (n : Nat) {R1} {l : List Entry} [H1 : EncL cEntry R1 l] : CP T (n + 4) 137 [.imm 4 R1] = (spec_AccountsOf l).map fun r => .own 1 (r.map c_i64) := by
  obtain ⟨rfl⟩ := H1
  rw [CP_eq]
  simp -dsimp +contextual only [↓evA, evB, evT, tys, encs, Nat.reduceAdd, Nat.reduceMul, Nat.reduceBEq, Nat.reduceLeDiff, Nat.reduceLT, Tryz.func137, Tryz.f137, a137, TP, orc_p, orc_l, e_spec_AccountsOf_l3]
  try simp only [spec_AccountsOf, evT, encs, c_js, r_map_some, e_need_t]
  all_goals rfl
theorem e_spec_Balance_l3 (n : Nat) {R1} {l : List Entry} (account : Int) (vn : Int) (i : Int) [H1 : EncL cEntry R1 l] : LP T (n + 4) 138 3 (frm [(0, .imm 4 R1), (1, .i .i64 account), (5, .i .i64 vn), (6, .i .i64 i)]) [] =
    (run (spec_Balance_l3 l account) (vn, i)).map (fun (zr : Int) => (XE.exit 0, frm [(5, .i .i64 zr)], [])) := by
  obtain ⟨rfl⟩ := H1
  rw [LP_eq]
  simp -dsimp only [↓evA, evB, lpG_eq, Tryz.func138, Tryz.f138, a138, TP, Nat.reduceAdd, Nat.reduceMul, Nat.reduceBEq, Nat.reduceLeDiff, Nat.reduceLT]
  refine run_map (fun (zs : Int × Int) => (frm [(0, .imm 4 (l.map cEntry)), (1, .i .i64 account), (5, .i .i64 zs.1), (6, .i .i64 zs.2)], [])) (fun (zr : Int) => (XE.exit 0, frm [(5, .i .i64 zr)], [])) ?_ (vn, i)
  rintro ⟨vn, i⟩
  simp -dsimp +contextual only [↓evA, evB, evT, tys, encs, Nat.reduceAdd, Nat.reduceMul, Nat.reduceBEq, Nat.reduceLeDiff, Nat.reduceLT, TP, orc_p, orc_l, e_spec_AreEntries]
  try simp only [spec_Balance_l3, evT, encs, c_js, r_map_some, e_need_t]
  all_goals rfl
theorem e_spec_Balance (n : Nat) {R1} {l : List Entry} (account : Int) [H1 : EncL cEntry R1 l] : CP T (n + 5) 138 [.imm 4 R1, .i .i64 account] = (spec_Balance l account).map fun r => .i .i64 r := by
  obtain ⟨rfl⟩ := H1
  rw [CP_eq]
  simp -dsimp +contextual only [↓evA, evB, evT, tys, encs, Nat.reduceAdd, Nat.reduceMul, Nat.reduceBEq, Nat.reduceLeDiff, Nat.reduceLT, Tryz.func138, Tryz.f138, a138, TP, orc_p, orc_l, e_spec_Balance_l3]
  try simp only [spec_Balance, evT, encs, c_js, r_map_some, e_need_t]
  all_goals rfl
theorem e_spec_IsBalanced_l4 (n : Nat) (vhxNo : Int) {R1} {vhxFinds : List Find} {R2} {vhxSecrets : List Secret} {R3} {vhxSlots : List Slot} {R4} {vhxClaims : List Claim} {R5} {vhxTrials : List Trial} {R6} {vhxChain : List Hand} {R7} {vhxBook : List Entry} (vhxNow : Int) (vn : Int) {R8} {a : List Int} (i : Int) [H1 : EncL cFind R1 vhxFinds] [H2 : EncL cSecret R2 vhxSecrets] [H3 : EncL cSlot R3 vhxSlots] [H4 : EncL cClaim R4 vhxClaims] [H5 : EncL cTrial R5 vhxTrials] [H6 : EncL cHand R6 vhxChain] [H7 : EncL cEntry R7 vhxBook] [H8 : EncL c_i64 R8 a] : LP T (n + 6) 45 4 (frm [(1, .ptr 0 0 0), (3, .i .i64 vn), (4, .sl 1), (5, .i .i64 i)]) [some (Ent.box [.i .i64 vhxNo, .imm 8 R1, .imm 3 R2, .imm 3 R3, .imm 5 R4, .imm 4 R5, .imm 5 R6, .imm 4 R7, .i .i64 vhxNow]), some (Ent.lst 1 R8)] =
    (run (spec_IsBalanced_l4 (⟨vhxNo, vhxFinds, vhxSecrets, vhxSlots, vhxClaims, vhxTrials, vhxChain, vhxBook, vhxNow⟩ : House) a) (vn, i)).map (fun (zr : Int) => (XE.exit 0, frm [(1, .ptr 0 0 0), (3, .i .i64 zr)], [some (Ent.box [.i .i64 (⟨vhxNo, vhxFinds, vhxSecrets, vhxSlots, vhxClaims, vhxTrials, vhxChain, vhxBook, vhxNow⟩ : House).No, .imm 8 ((⟨vhxNo, vhxFinds, vhxSecrets, vhxSlots, vhxClaims, vhxTrials, vhxChain, vhxBook, vhxNow⟩ : House).Finds.map cFind), .imm 3 ((⟨vhxNo, vhxFinds, vhxSecrets, vhxSlots, vhxClaims, vhxTrials, vhxChain, vhxBook, vhxNow⟩ : House).Secrets.map cSecret), .imm 3 ((⟨vhxNo, vhxFinds, vhxSecrets, vhxSlots, vhxClaims, vhxTrials, vhxChain, vhxBook, vhxNow⟩ : House).Slots.map cSlot), .imm 5 ((⟨vhxNo, vhxFinds, vhxSecrets, vhxSlots, vhxClaims, vhxTrials, vhxChain, vhxBook, vhxNow⟩ : House).Claims.map cClaim), .imm 4 ((⟨vhxNo, vhxFinds, vhxSecrets, vhxSlots, vhxClaims, vhxTrials, vhxChain, vhxBook, vhxNow⟩ : House).Trials.map cTrial), .imm 5 ((⟨vhxNo, vhxFinds, vhxSecrets, vhxSlots, vhxClaims, vhxTrials, vhxChain, vhxBook, vhxNow⟩ : House).Chain.map cHand), .imm 4 ((⟨vhxNo, vhxFinds, vhxSecrets, vhxSlots, vhxClaims, vhxTrials, vhxChain, vhxBook, vhxNow⟩ : House).Book.map cEntry), .i .i64 (⟨vhxNo, vhxFinds, vhxSecrets, vhxSlots, vhxClaims, vhxTrials, vhxChain, vhxBook, vhxNow⟩ : House).Now])])) := by
  obtain ⟨rfl⟩ := H1
  obtain ⟨rfl⟩ := H2
  obtain ⟨rfl⟩ := H3
  obtain ⟨rfl⟩ := H4
  obtain ⟨rfl⟩ := H5
  obtain ⟨rfl⟩ := H6
  obtain ⟨rfl⟩ := H7
  obtain ⟨rfl⟩ := H8
  rw [LP_eq]
  simp -dsimp only [↓evA, evB, lpG_eq, Tryz.func45, Tryz.f45, a45, TP, Nat.reduceAdd, Nat.reduceMul, Nat.reduceBEq, Nat.reduceLeDiff, Nat.reduceLT]
  refine run_map (fun (zs : Int × Int) => (frm [(1, .ptr 0 0 0), (3, .i .i64 zs.1), (4, .sl 1), (5, .i .i64 zs.2)], [some (Ent.box [.i .i64 (⟨vhxNo, vhxFinds, vhxSecrets, vhxSlots, vhxClaims, vhxTrials, vhxChain, vhxBook, vhxNow⟩ : House).No, .imm 8 ((⟨vhxNo, vhxFinds, vhxSecrets, vhxSlots, vhxClaims, vhxTrials, vhxChain, vhxBook, vhxNow⟩ : House).Finds.map cFind), .imm 3 ((⟨vhxNo, vhxFinds, vhxSecrets, vhxSlots, vhxClaims, vhxTrials, vhxChain, vhxBook, vhxNow⟩ : House).Secrets.map cSecret), .imm 3 ((⟨vhxNo, vhxFinds, vhxSecrets, vhxSlots, vhxClaims, vhxTrials, vhxChain, vhxBook, vhxNow⟩ : House).Slots.map cSlot), .imm 5 ((⟨vhxNo, vhxFinds, vhxSecrets, vhxSlots, vhxClaims, vhxTrials, vhxChain, vhxBook, vhxNow⟩ : House).Claims.map cClaim), .imm 4 ((⟨vhxNo, vhxFinds, vhxSecrets, vhxSlots, vhxClaims, vhxTrials, vhxChain, vhxBook, vhxNow⟩ : House).Trials.map cTrial), .imm 5 ((⟨vhxNo, vhxFinds, vhxSecrets, vhxSlots, vhxClaims, vhxTrials, vhxChain, vhxBook, vhxNow⟩ : House).Chain.map cHand), .imm 4 ((⟨vhxNo, vhxFinds, vhxSecrets, vhxSlots, vhxClaims, vhxTrials, vhxChain, vhxBook, vhxNow⟩ : House).Book.map cEntry), .i .i64 (⟨vhxNo, vhxFinds, vhxSecrets, vhxSlots, vhxClaims, vhxTrials, vhxChain, vhxBook, vhxNow⟩ : House).Now]), some (Ent.lst 1 (a.map c_i64))])) (fun (zr : Int) => (XE.exit 0, frm [(1, .ptr 0 0 0), (3, .i .i64 zr)], [some (Ent.box [.i .i64 (⟨vhxNo, vhxFinds, vhxSecrets, vhxSlots, vhxClaims, vhxTrials, vhxChain, vhxBook, vhxNow⟩ : House).No, .imm 8 ((⟨vhxNo, vhxFinds, vhxSecrets, vhxSlots, vhxClaims, vhxTrials, vhxChain, vhxBook, vhxNow⟩ : House).Finds.map cFind), .imm 3 ((⟨vhxNo, vhxFinds, vhxSecrets, vhxSlots, vhxClaims, vhxTrials, vhxChain, vhxBook, vhxNow⟩ : House).Secrets.map cSecret), .imm 3 ((⟨vhxNo, vhxFinds, vhxSecrets, vhxSlots, vhxClaims, vhxTrials, vhxChain, vhxBook, vhxNow⟩ : House).Slots.map cSlot), .imm 5 ((⟨vhxNo, vhxFinds, vhxSecrets, vhxSlots, vhxClaims, vhxTrials, vhxChain, vhxBook, vhxNow⟩ : House).Claims.map cClaim), .imm 4 ((⟨vhxNo, vhxFinds, vhxSecrets, vhxSlots, vhxClaims, vhxTrials, vhxChain, vhxBook, vhxNow⟩ : House).Trials.map cTrial), .imm 5 ((⟨vhxNo, vhxFinds, vhxSecrets, vhxSlots, vhxClaims, vhxTrials, vhxChain, vhxBook, vhxNow⟩ : House).Chain.map cHand), .imm 4 ((⟨vhxNo, vhxFinds, vhxSecrets, vhxSlots, vhxClaims, vhxTrials, vhxChain, vhxBook, vhxNow⟩ : House).Book.map cEntry), .i .i64 (⟨vhxNo, vhxFinds, vhxSecrets, vhxSlots, vhxClaims, vhxTrials, vhxChain, vhxBook, vhxNow⟩ : House).Now])])) ?_ (vn, i)
  rintro ⟨vn, i⟩
  simp -dsimp +contextual only [↓evA, evB, evT, tys, encs, Nat.reduceAdd, Nat.reduceMul, Nat.reduceBEq, Nat.reduceLeDiff, Nat.reduceLT, TP, orc_p, orc_l, e_spec_Balance]
  try simp only [spec_IsBalanced_l4, evT, encs, c_js, r_map_some, e_need_t]
  all_goals rfl
theorem e_spec_IsBalanced (n : Nat) (vhxNo : Int) {R1} {vhxFinds : List Find} {R2} {vhxSecrets : List Secret} {R3} {vhxSlots : List Slot} {R4} {vhxClaims : List Claim} {R5} {vhxTrials : List Trial} {R6} {vhxChain : List Hand} {R7} {vhxBook : List Entry} (vhxNow : Int) [H1 : EncL cFind R1 vhxFinds] [H2 : EncL cSecret R2 vhxSecrets] [H3 : EncL cSlot R3 vhxSlots] [H4 : EncL cClaim R4 vhxClaims] [H5 : EncL cTrial R5 vhxTrials] [H6 : EncL cHand R6 vhxChain] [H7 : EncL cEntry R7 vhxBook] : CP T (n + 7) 45 [.agg [.i .i64 vhxNo, .imm 8 R1, .imm 3 R2, .imm 3 R3, .imm 5 R4, .imm 4 R5, .imm 5 R6, .imm 4 R7, .i .i64 vhxNow]] = (spec_IsBalanced (⟨vhxNo, vhxFinds, vhxSecrets, vhxSlots, vhxClaims, vhxTrials, vhxChain, vhxBook, vhxNow⟩ : House)).map fun r => .b r := by
  obtain ⟨rfl⟩ := H1
  obtain ⟨rfl⟩ := H2
  obtain ⟨rfl⟩ := H3
  obtain ⟨rfl⟩ := H4
  obtain ⟨rfl⟩ := H5
  obtain ⟨rfl⟩ := H6
  obtain ⟨rfl⟩ := H7
  rw [CP_eq]
  simp -dsimp +contextual only [↓evA, evB, evT, tys, encs, Nat.reduceAdd, Nat.reduceMul, Nat.reduceBEq, Nat.reduceLeDiff, Nat.reduceLT, Tryz.func45, Tryz.f45, a45, TP, orc_p, orc_l, e_spec_AccountsOf, e_spec_Balance, e_spec_IsBalanced_l4]
  try simp only [spec_IsBalanced, evT, encs, c_js, r_map_some, e_need_t]
  all_goals rfl
theorem e_spec_FaultOf (n : Nat) (vhxNo : Int) {R1} {vhxFinds : List Find} {R2} {vhxSecrets : List Secret} {R3} {vhxSlots : List Slot} {R4} {vhxClaims : List Claim} {R5} {vhxTrials : List Trial} {R6} {vhxChain : List Hand} {R7} {vhxBook : List Entry} (vhxNow : Int) [H1 : EncL cFind R1 vhxFinds] [H2 : EncL cSecret R2 vhxSecrets] [H3 : EncL cSlot R3 vhxSlots] [H4 : EncL cClaim R4 vhxClaims] [H5 : EncL cTrial R5 vhxTrials] [H6 : EncL cHand R6 vhxChain] [H7 : EncL cEntry R7 vhxBook] : CP T (n + 12) 11 [.agg [.i .i64 vhxNo, .imm 8 R1, .imm 3 R2, .imm 3 R3, .imm 5 R4, .imm 4 R5, .imm 5 R6, .imm 4 R7, .i .i64 vhxNow]] = (spec_FaultOf (⟨vhxNo, vhxFinds, vhxSecrets, vhxSlots, vhxClaims, vhxTrials, vhxChain, vhxBook, vhxNow⟩ : House)).map fun r => .s r := by
  obtain ⟨rfl⟩ := H1
  obtain ⟨rfl⟩ := H2
  obtain ⟨rfl⟩ := H3
  obtain ⟨rfl⟩ := H4
  obtain ⟨rfl⟩ := H5
  obtain ⟨rfl⟩ := H6
  obtain ⟨rfl⟩ := H7
  rw [CP_eq]
  simp -dsimp +contextual only [↓evA, evB, evT, tys, encs, Nat.reduceAdd, Nat.reduceMul, Nat.reduceBEq, Nat.reduceLeDiff, Nat.reduceLT, Tryz.func11, Tryz.f11, a11, TP, orc_p, orc_l, e_spec_IsHouse, e_spec_IsAccounted, e_spec_AreOwners, e_spec_IsNeverEarly, e_spec_IsBalanced]
  try simp only [spec_FaultOf, evT, encs, c_js, r_map_some, e_need_t]
  all_goals rfl
theorem e_impl_InRange (n : Nat) (vn : Int) (low : Int) (high : Int) : CP T (n + 1) 70 [.i .i64 vn, .i .i64 low, .i .i64 high] = (impl_InRange vn low high).map fun r => .b r := by
  rw [CP_eq]
  simp -dsimp +contextual only [↓evA, evB, evT, tys, encs, Nat.reduceAdd, Nat.reduceMul, Nat.reduceBEq, Nat.reduceLeDiff, Nat.reduceLT, Tryz.func70, Tryz.f70, a70, TP, orc_p, orc_l]
  try simp only [impl_InRange, evT, encs, c_js, r_map_some, e_need_t]
  all_goals rfl
theorem e_impl_IsThing (n : Nat) (xxId : Int) (xxKind : Int) (xxColour : Int) (xxSize : Int) (xxWorth : Int) : CP T (n + 2) 206 [.agg [.i .i64 xxId, .i .i64 xxKind, .i .i64 xxColour, .i .i64 xxSize, .i .i64 xxWorth]] = (impl_IsThing (⟨xxId, xxKind, xxColour, xxSize, xxWorth⟩ : Thing)).map fun r => .b r := by
  rw [CP_eq]
  simp -dsimp +contextual only [↓evA, evB, evT, tys, encs, Nat.reduceAdd, Nat.reduceMul, Nat.reduceBEq, Nat.reduceLeDiff, Nat.reduceLT, Tryz.func206, Tryz.f206, a206, TP, orc_p, orc_l, e_impl_InRange]
  try simp only [impl_IsThing, evT, encs, c_js, r_map_some, e_need_t]
  all_goals rfl
theorem e_impl_IsFind (n : Nat) (fxThingxId : Int) (fxThingxKind : Int) (fxThingxColour : Int) (fxThingxSize : Int) (fxThingxWorth : Int) (fxPlace : Int) (fxAt : Int) (fxFinder : Int) : CP T (n + 3) 218 [.agg [.i .i64 fxThingxId, .i .i64 fxThingxKind, .i .i64 fxThingxColour, .i .i64 fxThingxSize, .i .i64 fxThingxWorth, .i .i64 fxPlace, .i .i64 fxAt, .i .i64 fxFinder]] = (impl_IsFind (⟨⟨fxThingxId, fxThingxKind, fxThingxColour, fxThingxSize, fxThingxWorth⟩, fxPlace, fxAt, fxFinder⟩ : Find)).map fun r => .b r := by
  rw [CP_eq]
  simp -dsimp +contextual only [↓evA, evB, evT, tys, encs, Nat.reduceAdd, Nat.reduceMul, Nat.reduceBEq, Nat.reduceLeDiff, Nat.reduceLT, Tryz.func218, Tryz.f218, a218, TP, orc_p, orc_l, e_impl_IsThing, e_impl_InRange]
  try simp only [impl_IsFind, evT, encs, c_js, r_map_some, e_need_t]
  all_goals rfl
theorem e_impl_AreFinds_l4 (n : Nat) {R1} {l : List Find} {R2} {t8 : List Find} (t9 : Int) (t10 : Int) [H1 : EncL cFind R1 l] [H2 : EncL cFind R2 t8] : LP T (n + 4) 145 4 (frm [(0, .imm 8 R1), (8, .imm 8 R2), (9, .i .i64 t9), (10, .i .i64 t10)]) [] =
    lmap (run (impl_AreFinds_l4 l t8 t9) t10) (fun (zr : Bool) => (XE.ret, frm [(2, .b zr)], [])) (fun (zr : Unit) => (XE.exit 0, frm [], [])) := by
  obtain ⟨rfl⟩ := H1
  obtain ⟨rfl⟩ := H2
  rw [LP_eq]
  simp -dsimp only [↓evA, evB, lpG_eq, Tryz.func145, Tryz.f145, a145, TP, Nat.reduceAdd, Nat.reduceMul, Nat.reduceBEq, Nat.reduceLeDiff, Nat.reduceLT]
  refine run_map (fun (zs : Int) => (frm [(0, .imm 8 (l.map cFind)), (8, .imm 8 (t8.map cFind)), (9, .i .i64 t9), (10, .i .i64 zs)], [])) (evO (fun (zr : Bool) => (XE.ret, frm [(2, .b zr)], [])) (fun (zr : Unit) => (XE.exit 0, frm [], []))) ?_ t10
  intro t10
  simp -dsimp +contextual only [↓evA, evB, evT, tys, encs, Nat.reduceAdd, Nat.reduceMul, Nat.reduceBEq, Nat.reduceLeDiff, Nat.reduceLT, TP, orc_p, orc_l, e_impl_IsFind]
  try simp only [impl_AreFinds_l4, evT, encs, c_js, r_map_some, e_need_t]
  all_goals rfl
theorem e_impl_AreFinds (n : Nat) {R1} {l : List Find} [H1 : EncL cFind R1 l] : CP T (n + 5) 145 [.imm 8 R1] = (impl_AreFinds l).map fun r => .b r := by
  obtain ⟨rfl⟩ := H1
  rw [CP_eq]
  simp -dsimp +contextual only [↓evA, evB, evT, tys, encs, Nat.reduceAdd, Nat.reduceMul, Nat.reduceBEq, Nat.reduceLeDiff, Nat.reduceLT, Tryz.func145, Tryz.f145, a145, TP, orc_p, orc_l, e_impl_AreFinds_l4]
  try simp only [impl_AreFinds, evT, encs, c_js, r_map_some, e_need_t]
  all_goals rfl
theorem e_impl_AreMarks_l4 (n : Nat) {R1} {l : List Mark} {R2} {t8 : List Mark} (t9 : Int) (t10 : Int) [H1 : EncL cMark R1 l] [H2 : EncL cMark R2 t8] : LP T (n + 2) 192 4 (frm [(0, .imm 2 R1), (8, .imm 2 R2), (9, .i .i64 t9), (10, .i .i64 t10)]) [] =
    lmap (run (impl_AreMarks_l4 l t8 t9) t10) (fun (zr : Bool) => (XE.ret, frm [(2, .b zr)], [])) (fun (zr : Unit) => (XE.exit 0, frm [], [])) := by
  obtain ⟨rfl⟩ := H1
  obtain ⟨rfl⟩ := H2
  rw [LP_eq]
  simp -dsimp only [↓evA, evB, lpG_eq, Tryz.func192, Tryz.f192, a192, TP, Nat.reduceAdd, Nat.reduceMul, Nat.reduceBEq, Nat.reduceLeDiff, Nat.reduceLT]
  refine run_map (fun (zs : Int) => (frm [(0, .imm 2 (l.map cMark)), (8, .imm 2 (t8.map cMark)), (9, .i .i64 t9), (10, .i .i64 zs)], [])) (evO (fun (zr : Bool) => (XE.ret, frm [(2, .b zr)], [])) (fun (zr : Unit) => (XE.exit 0, frm [], []))) ?_ t10
  intro t10
  simp -dsimp +contextual only [↓evA, evB, evT, tys, encs, Nat.reduceAdd, Nat.reduceMul, Nat.reduceBEq, Nat.reduceLeDiff, Nat.reduceLT, TP, orc_p, orc_l, e_impl_InRange]
  try simp only [impl_AreMarks_l4, evT, encs, c_js, r_map_some, e_need_t]
  all_goals rfl
theorem e_impl_AreMarks (n : Nat) {R1} {l : List Mark} [H1 : EncL cMark R1 l] : CP T (n + 3) 192 [.imm 2 R1] = (impl_AreMarks l).map fun r => .b r := by
  obtain ⟨rfl⟩ := H1
  rw [CP_eq]
  simp -dsimp +contextual only [↓evA, evB, evT, tys, encs, Nat.reduceAdd, Nat.reduceMul, Nat.reduceBEq, Nat.reduceLeDiff, Nat.reduceLT, Tryz.func192, Tryz.f192, a192, TP, orc_p, orc_l, e_impl_AreMarks_l4]
  try simp only [impl_AreMarks, evT, encs, c_js, r_map_some, e_need_t]
  all_goals rfl
theorem e_impl_AreSecrets_l4 (n : Nat) {R1} {l : List Secret} {R2} {t8 : List Secret} (t9 : Int) (t10 : Int) [H1 : EncL cSecret R1 l] [H2 : EncL cSecret R2 t8] : LP T (n + 4) 146 4 (frm [(0, .imm 3 R1), (8, .imm 3 R2), (9, .i .i64 t9), (10, .i .i64 t10)]) [] =
    lmap (run (impl_AreSecrets_l4 l t8 t9) t10) (fun (zr : Bool) => (XE.ret, frm [(2, .b zr)], [])) (fun (zr : Unit) => (XE.exit 0, frm [], [])) := by
  obtain ⟨rfl⟩ := H1
  obtain ⟨rfl⟩ := H2
  rw [LP_eq]
  simp -dsimp only [↓evA, evB, lpG_eq, Tryz.func146, Tryz.f146, a146, TP, Nat.reduceAdd, Nat.reduceMul, Nat.reduceBEq, Nat.reduceLeDiff, Nat.reduceLT]
  refine run_map (fun (zs : Int) => (frm [(0, .imm 3 (l.map cSecret)), (8, .imm 3 (t8.map cSecret)), (9, .i .i64 t9), (10, .i .i64 zs)], [])) (evO (fun (zr : Bool) => (XE.ret, frm [(2, .b zr)], [])) (fun (zr : Unit) => (XE.exit 0, frm [], []))) ?_ t10
  intro t10
  simp -dsimp +contextual only [↓evA, evB, evT, tys, encs, Nat.reduceAdd, Nat.reduceMul, Nat.reduceBEq, Nat.reduceLeDiff, Nat.reduceLT, TP, orc_p, orc_l, e_impl_InRange, e_impl_AreMarks]
  try simp only [impl_AreSecrets_l4, evT, encs, c_js, r_map_some, e_need_t]
  all_goals rfl
theorem e_impl_AreSecrets (n : Nat) {R1} {l : List Secret} [H1 : EncL cSecret R1 l] : CP T (n + 5) 146 [.imm 3 R1] = (impl_AreSecrets l).map fun r => .b r := by
  obtain ⟨rfl⟩ := H1
  rw [CP_eq]
  simp -dsimp +contextual only [↓evA, evB, evT, tys, encs, Nat.reduceAdd, Nat.reduceMul, Nat.reduceBEq, Nat.reduceLeDiff, Nat.reduceLT, Tryz.func146, Tryz.f146, a146, TP, orc_p, orc_l, e_impl_AreSecrets_l4]
  try simp only [impl_AreSecrets, evT, encs, c_js, r_map_some, e_need_t]
  all_goals rfl
theorem e_impl_slotWith_1 (n : Nat) (xxId : Int) (xxSize : Int) (xxThing : Int) (c : Int) : CP T (n + 1) 198 [.agg [.i .i64 xxId, .i .i64 xxSize, .i .i64 xxThing], .iptr 1 [[.i .i64 c]] 0 0] = (impl_slotWith_1 (⟨xxId, xxSize, xxThing⟩ : Slot) c).map fun r => .b r := by
  rw [CP_eq]
  simp -dsimp +contextual only [↓evA, evB, evT, tys, encs, Nat.reduceAdd, Nat.reduceMul, Nat.reduceBEq, Nat.reduceLeDiff, Nat.reduceLT, Tryz.func198, Tryz.f198, a198, TP, orc_p, orc_l]
  try simp only [impl_slotWith_1, evT, encs, c_js, r_map_some, e_need_t]
  all_goals rfl
theorem e_slices_IndexFunc_Slot_cimpl_slotWith_1_l2 (n : Nat) {R1} {s : List Slot} (f : Int) (t7 : Int) (t8 : Int) [H1 : EncL cSlot R1 s] : LP T (n + 2) 197 2 (frm [(0, .imm 3 R1), (1, .clo 198 [.iptr 1 [[.i .i64 f]] 0 0]), (7, .i .i64 t7), (8, .i .i64 t8)]) [] =
    lmap (run (slices_IndexFunc_Slot_cimpl_slotWith_1_l2 s f t7) t8) (fun (zr : Int) => (XE.ret, frm [(4, .i .i64 zr)], [])) (fun (zr : Unit) => (XE.exit 0, frm [], [])) := by
  obtain ⟨rfl⟩ := H1
  rw [LP_eq]
  simp -dsimp only [↓evA, evB, lpG_eq, Tryz.func197, Tryz.f197, a197, TP, Nat.reduceAdd, Nat.reduceMul, Nat.reduceBEq, Nat.reduceLeDiff, Nat.reduceLT]
  refine run_map (fun (zs : Int) => (frm [(0, .imm 3 (s.map cSlot)), (1, .clo 198 [.iptr 1 [[.i .i64 f]] 0 0]), (7, .i .i64 t7), (8, .i .i64 zs)], [])) (evO (fun (zr : Int) => (XE.ret, frm [(4, .i .i64 zr)], [])) (fun (zr : Unit) => (XE.exit 0, frm [], []))) ?_ t8
  intro t8
  simp -dsimp +contextual only [↓evA, evB, evT, tys, encs, Nat.reduceAdd, Nat.reduceMul, Nat.reduceBEq, Nat.reduceLeDiff, Nat.reduceLT, TP, orc_p, orc_l, e_impl_slotWith_1]
  try simp only [slices_IndexFunc_Slot_cimpl_slotWith_1_l2, evT, encs, c_js, r_map_some, e_need_t]
  all_goals rfl
theorem e_slices_IndexFunc_Slot_cimpl_slotWith_1 (n : Nat) {R1} {s : List Slot} (c : Int) [H1 : EncL cSlot R1 s] : CP T (n + 3) 197 [.imm 3 R1, .clo 198 [.iptr 1 [[.i .i64 c]] 0 0]] = (slices_IndexFunc_Slot_cimpl_slotWith_1 s c).map fun r => .i .i64 r := by
  obtain ⟨rfl⟩ := H1
  rw [CP_eq]
  simp -dsimp +contextual only [↓evA, evB, evT, tys, encs, Nat.reduceAdd, Nat.reduceMul, Nat.reduceBEq, Nat.reduceLeDiff, Nat.reduceLT, Tryz.func197, Tryz.f197, a197, TP, orc_p, orc_l, e_slices_IndexFunc_Slot_cimpl_slotWith_1_l2]
  try simp only [slices_IndexFunc_Slot_cimpl_slotWith_1, evT, encs, c_js, r_map_some, e_need_t]
  all_goals rfl
theorem e_impl_slotWith (n : Nat) {R1} {l : List Slot} (thing : Int) [H1 : EncL cSlot R1 l] : CP T (n + 4) 97 [.imm 3 R1, .i .i64 thing] = (impl_slotWith l thing).map fun r => .i .i64 r := by
  obtain ⟨rfl⟩ := H1
  rw [CP_eq]
  simp -dsimp +contextual only [↓evA, evB, evT, tys, encs, Nat.reduceAdd, Nat.reduceMul, Nat.reduceBEq, Nat.reduceLeDiff, Nat.reduceLT, Tryz.func97, Tryz.f97, a97, TP, orc_p, orc_l, e_slices_IndexFunc_Slot_cimpl_slotWith_1]
  try simp only [impl_slotWith, evT, encs, c_js, r_map_some, e_need_t]
  all_goals rfl
theorem e_impl_SlotOf (n : Nat) {R1} {l : List Slot} (thing : Int) [H1 : EncL cSlot R1 l] : CP T (n + 5) 219 [.imm 3 R1, .i .i64 thing] = (impl_SlotOf l thing).map fun r => .i .i64 r := by
  obtain ⟨rfl⟩ := H1
  rw [CP_eq]
  simp -dsimp +contextual only [↓evA, evB, evT, tys, encs, Nat.reduceAdd, Nat.reduceMul, Nat.reduceBEq, Nat.reduceLeDiff, Nat.reduceLT, Tryz.func219, Tryz.f219, a219, TP, orc_p, orc_l, e_impl_slotWith]
  try simp only [impl_SlotOf, evT, encs, c_js, r_map_some, e_need_t]
  all_goals rfl
theorem e_impl_AreSlots_l4 (n : Nat) {R1} {l : List Slot} {R2} {t8 : List Slot} (t9 : Int) (t10 : Int) [H1 : EncL cSlot R1 l] [H2 : EncL cSlot R2 t8] : LP T (n + 6) 147 4 (frm [(0, .imm 3 R1), (8, .imm 3 R2), (9, .i .i64 t9), (10, .i .i64 t10)]) [] =
    lmap (run (impl_AreSlots_l4 l t8 t9) t10) (fun (zr : Bool) => (XE.ret, frm [(2, .b zr)], [])) (fun (zr : Unit) => (XE.exit 0, frm [], [])) := by
  obtain ⟨rfl⟩ := H1
  obtain ⟨rfl⟩ := H2
  rw [LP_eq]
  simp -dsimp only [↓evA, evB, lpG_eq, Tryz.func147, Tryz.f147, a147, TP, Nat.reduceAdd, Nat.reduceMul, Nat.reduceBEq, Nat.reduceLeDiff, Nat.reduceLT]
  refine run_map (fun (zs : Int) => (frm [(0, .imm 3 (l.map cSlot)), (8, .imm 3 (t8.map cSlot)), (9, .i .i64 t9), (10, .i .i64 zs)], [])) (evO (fun (zr : Bool) => (XE.ret, frm [(2, .b zr)], [])) (fun (zr : Unit) => (XE.exit 0, frm [], []))) ?_ t10
  intro t10
  simp -dsimp +contextual only [↓evA, evB, evT, tys, encs, Nat.reduceAdd, Nat.reduceMul, Nat.reduceBEq, Nat.reduceLeDiff, Nat.reduceLT, TP, orc_p, orc_l, e_impl_InRange, e_impl_SlotOf]
  try simp only [impl_AreSlots_l4, evT, encs, c_js, r_map_some, e_need_t]
  all_goals rfl
theorem e_impl_AreSlots (n : Nat) {R1} {l : List Slot} [H1 : EncL cSlot R1 l] : CP T (n + 7) 147 [.imm 3 R1] = (impl_AreSlots l).map fun r => .b r := by
  obtain ⟨rfl⟩ := H1
  rw [CP_eq]
  simp -dsimp +contextual only [↓evA, evB, evT, tys, encs, Nat.reduceAdd, Nat.reduceMul, Nat.reduceBEq, Nat.reduceLeDiff, Nat.reduceLT, Tryz.func147, Tryz.f147, a147, TP, orc_p, orc_l, e_impl_AreSlots_l4]
  try simp only [impl_AreSlots, evT, encs, c_js, r_map_some, e_need_t]
  all_goals rfl
theorem e_impl_AreClaims_l9 (n : Nat) {R1} {l : List Claim} (t4xId : Int) (t4xWho : Int) (t4xThing : Int) (t4xAt : Int) (t4xState : Int) {R2} {t10 : List Claim} (t11 : Int) (t12 : Int) {R3} {t62 : List Claim} (t63 : Int) (t64 : Int) [H1 : EncL cClaim R1 l] [H2 : EncL cClaim R2 t10] [H3 : EncL cClaim R3 t62] : LP T (n + 1) 148 9 (frm [(0, .imm 5 R1), (4, .ptr 0 0 0), (10, .imm 5 R2), (11, .i .i64 t11), (12, .i .i64 t12), (62, .imm 5 R3), (63, .i .i64 t63), (64, .i .i64 t64)]) [some (Ent.box [.i .i64 t4xId, .i .i64 t4xWho, .i .i64 t4xThing, .i .i64 t4xAt, .i .i64 t4xState])] =
    lmap (run (impl_AreClaims_l9 l (⟨t4xId, t4xWho, t4xThing, t4xAt, t4xState⟩ : Claim) t10 t11 t12 t62 t63) t64) (fun (zr : Bool) => (XE.ret, frm [(2, .b zr)], [])) (fun (zr : Unit) => (XE.exit 2, frm [(0, .imm 5 (l.map cClaim)), (10, .imm 5 (t10.map cClaim)), (11, .i .i64 t11), (12, .i .i64 t12)], [])) := by
  obtain ⟨rfl⟩ := H1
  obtain ⟨rfl⟩ := H2
  obtain ⟨rfl⟩ := H3
  rw [LP_eq]
  simp -dsimp only [↓evA, evB, lpG_eq, Tryz.func148, Tryz.f148, a148, TP, Nat.reduceAdd, Nat.reduceMul, Nat.reduceBEq, Nat.reduceLeDiff, Nat.reduceLT]
  refine run_map (fun (zs : Int) => (frm [(0, .imm 5 (l.map cClaim)), (4, .ptr 0 0 0), (10, .imm 5 (t10.map cClaim)), (11, .i .i64 t11), (12, .i .i64 t12), (62, .imm 5 (t62.map cClaim)), (63, .i .i64 t63), (64, .i .i64 zs)], [some (Ent.box [.i .i64 (⟨t4xId, t4xWho, t4xThing, t4xAt, t4xState⟩ : Claim).Id, .i .i64 (⟨t4xId, t4xWho, t4xThing, t4xAt, t4xState⟩ : Claim).Who, .i .i64 (⟨t4xId, t4xWho, t4xThing, t4xAt, t4xState⟩ : Claim).Thing, .i .i64 (⟨t4xId, t4xWho, t4xThing, t4xAt, t4xState⟩ : Claim).At, .i .i64 (⟨t4xId, t4xWho, t4xThing, t4xAt, t4xState⟩ : Claim).State])])) (evO (fun (zr : Bool) => (XE.ret, frm [(2, .b zr)], [])) (fun (zr : Unit) => (XE.exit 2, frm [(0, .imm 5 (l.map cClaim)), (10, .imm 5 (t10.map cClaim)), (11, .i .i64 t11), (12, .i .i64 t12)], []))) ?_ t64
  intro t64
  simp -dsimp +contextual only [↓evA, evB, evT, tys, encs, Nat.reduceAdd, Nat.reduceMul, Nat.reduceBEq, Nat.reduceLeDiff, Nat.reduceLT, TP, orc_p, orc_l]
  try simp only [impl_AreClaims_l9, evT, encs, c_js, r_map_some, e_need_t]
  all_goals rfl
theorem e_impl_AreClaims_l4 (n : Nat) {R1} {l : List Claim} {R2} {t10 : List Claim} (t11 : Int) (t12 : Int) [H1 : EncL cClaim R1 l] [H2 : EncL cClaim R2 t10] : LP T (n + 2) 148 4 (frm [(0, .imm 5 R1), (10, .imm 5 R2), (11, .i .i64 t11), (12, .i .i64 t12)]) [] =
    lmap (run (impl_AreClaims_l4 l t10 t11) t12) (fun (zr : Bool) => (XE.ret, frm [(2, .b zr)], [])) (fun (zr : Unit) => (XE.exit 0, frm [], [])) := by
  obtain ⟨rfl⟩ := H1
  obtain ⟨rfl⟩ := H2
  rw [LP_eq]
  simp -dsimp only [↓evA, evB, lpG_eq, Tryz.func148, Tryz.f148, a148, TP, Nat.reduceAdd, Nat.reduceMul, Nat.reduceBEq, Nat.reduceLeDiff, Nat.reduceLT]
  refine run_map (fun (zs : Int) => (frm [(0, .imm 5 (l.map cClaim)), (10, .imm 5 (t10.map cClaim)), (11, .i .i64 t11), (12, .i .i64 zs)], [])) (evO (fun (zr : Bool) => (XE.ret, frm [(2, .b zr)], [])) (fun (zr : Unit) => (XE.exit 0, frm [], []))) ?_ t12
  intro t12
  simp -dsimp +contextual only [↓evA, evB, evT, tys, encs, Nat.reduceAdd, Nat.reduceMul, Nat.reduceBEq, Nat.reduceLeDiff, Nat.reduceLT, TP, orc_p, orc_l, e_impl_InRange, e_impl_AreClaims_l9]
  try simp only [impl_AreClaims_l4, evT, encs, c_js, r_map_some, e_need_t]
  all_goals rfl
theorem e_impl_AreClaims (n : Nat) {R1} {l : List Claim} [H1 : EncL cClaim R1 l] : CP T (n + 3) 148 [.imm 5 R1] = (impl_AreClaims l).map fun r => .b r := by
  obtain ⟨rfl⟩ := H1
  rw [CP_eq]
  simp -dsimp +contextual only [↓evA, evB, evT, tys, encs, Nat.reduceAdd, Nat.reduceMul, Nat.reduceBEq, Nat.reduceLeDiff, Nat.reduceLT, Tryz.func148, Tryz.f148, a148, TP, orc_p, orc_l, e_impl_AreClaims_l4]
  try simp only [impl_AreClaims, evT, encs, c_js, r_map_some, e_need_t]
  all_goals rfl
theorem e_impl_Mod (n : Nat) (p : Int) (q : Int) : CP T (n + 2) 272 [.i .i64 p, .i .i64 q] = (impl_Mod p q).map fun r => .i .i64 r := by
  rw [CP_eq]
  simp -dsimp +contextual only [↓evA, evB, evT, tys, encs, Nat.reduceAdd, Nat.reduceMul, Nat.reduceBEq, Nat.reduceLeDiff, Nat.reduceLT, Tryz.func272, Tryz.f272, a272, TP, orc_p, orc_l, e_impl_InRange]
  try simp only [impl_Mod, evT, encs, c_js, r_map_some, e_need_t]
  all_goals rfl
theorem e_impl_fold (n : Nat) (acc : Int) (v : Int) : CP T (n + 3) 256 [.i .i64 acc, .i .i64 v] = (impl_fold acc v).map fun r => .i .i64 r := by
  rw [CP_eq]
  simp -dsimp +contextual only [↓evA, evB, evT, tys, encs, Nat.reduceAdd, Nat.reduceMul, Nat.reduceBEq, Nat.reduceLeDiff, Nat.reduceLT, Tryz.func256, Tryz.f256, a256, TP, orc_p, orc_l, e_impl_Mod]
  try simp only [impl_fold, evT, encs, c_js, r_map_some, e_need_t]
  all_goals rfl
theorem e_impl_Hash_l3 (n : Nat) (acc : Int) {R1} {t6 : List Int} (t7 : Int) (t8 : Int) [H1 : EncL c_i64 R1 t6] : LP T (n + 4) 244 3 (frm [(3, .i .i64 acc), (6, .imm 1 R1), (7, .i .i64 t7), (8, .i .i64 t8)]) [] =
    (run (impl_Hash_l3 t6 t7) (acc, t8)).map (fun (zr : Int) => (XE.exit 0, frm [(3, .i .i64 zr)], [])) := by
  obtain ⟨rfl⟩ := H1
  rw [LP_eq]
  simp -dsimp only [↓evA, evB, lpG_eq, Tryz.func244, Tryz.f244, a244, TP, Nat.reduceAdd, Nat.reduceMul, Nat.reduceBEq, Nat.reduceLeDiff, Nat.reduceLT]
  refine run_map (fun (zs : Int × Int) => (frm [(3, .i .i64 zs.1), (6, .imm 1 (t6.map c_i64)), (7, .i .i64 t7), (8, .i .i64 zs.2)], [])) (fun (zr : Int) => (XE.exit 0, frm [(3, .i .i64 zr)], [])) ?_ (acc, t8)
  rintro ⟨acc, t8⟩
  simp -dsimp +contextual only [↓evA, evB, evT, tys, encs, Nat.reduceAdd, Nat.reduceMul, Nat.reduceBEq, Nat.reduceLeDiff, Nat.reduceLT, TP, orc_p, orc_l, e_impl_fold]
  try simp only [impl_Hash_l3, evT, encs, c_js, r_map_some, e_need_t]
  all_goals rfl
theorem e_impl_Hash (n : Nat) {R1} {values : List Int} [H1 : EncL c_i64 R1 values] : CP T (n + 5) 244 [.imm 1 R1] = (impl_Hash values).map fun r => .i .i64 r := by
  obtain ⟨rfl⟩ := H1
  rw [CP_eq]
  simp -dsimp +contextual only [↓evA, evB, evT, tys, encs, Nat.reduceAdd, Nat.reduceMul, Nat.reduceBEq, Nat.reduceLeDiff, Nat.reduceLT, Tryz.func244, Tryz.f244, a244, TP, orc_p, orc_l, e_impl_Hash_l3]
  try simp only [impl_Hash, evT, encs, c_js, r_map_some, e_need_t]
  all_goals rfl
theorem e_impl_HandSeal (n : Nat) (before : Int) (xxThing : Int) (xxHolder : Int) (xxWho : Int) (xxAt : Int) (xxSeal : Int) : CP T (n + 6) 213 [.i .i64 before, .agg [.i .i64 xxThing, .i .i64 xxHolder, .i .i64 xxWho, .i .i64 xxAt, .i .i64 xxSeal]] = (impl_HandSeal before (⟨xxThing, xxHolder, xxWho, xxAt, xxSeal⟩ : Hand)).map fun r => .i .i64 r := by
  rw [CP_eq]
  simp -dsimp +contextual only [↓evA, evB, evT, tys, encs, Nat.reduceAdd, Nat.reduceMul, Nat.reduceBEq, Nat.reduceLeDiff, Nat.reduceLT, Tryz.func213, Tryz.f213, a213, TP, orc_p, orc_l, e_impl_Hash]
  try simp only [impl_HandSeal, evT, encs, c_js, r_map_some, e_need_t]
  all_goals rfl
theorem e_impl_lastHand_l2 (n : Nat) {R1} {l : List Hand} (thing : Int) (i : Int) [H1 : EncL cHand R1 l] : LP T (n + 1) 155 2 (frm [(0, .imm 5 R1), (1, .i .i64 thing), (5, .i .i64 i)]) [] =
    lmap (run (impl_lastHand_l2 l thing) i) (fun (zr : Int) => (XE.ret, frm [(4, .i .i64 zr)], [])) (fun (zr : Unit) => (XE.exit 0, frm [], [])) := by
  obtain ⟨rfl⟩ := H1
  rw [LP_eq]
  simp -dsimp only [↓evA, evB, lpG_eq, Tryz.func155, Tryz.f155, a155, TP, Nat.reduceAdd, Nat.reduceMul, Nat.reduceBEq, Nat.reduceLeDiff, Nat.reduceLT]
  refine run_map (fun (zs : Int) => (frm [(0, .imm 5 (l.map cHand)), (1, .i .i64 thing), (5, .i .i64 zs)], [])) (evO (fun (zr : Int) => (XE.ret, frm [(4, .i .i64 zr)], [])) (fun (zr : Unit) => (XE.exit 0, frm [], []))) ?_ i
  intro i
  simp -dsimp +contextual only [↓evA, evB, evT, tys, encs, Nat.reduceAdd, Nat.reduceMul, Nat.reduceBEq, Nat.reduceLeDiff, Nat.reduceLT, TP, orc_p, orc_l]
  try simp only [impl_lastHand_l2, evT, encs, c_js, r_map_some, e_need_t]
  all_goals rfl
theorem e_impl_lastHand (n : Nat) {R1} {l : List Hand} (thing : Int) [H1 : EncL cHand R1 l] : CP T (n + 2) 155 [.imm 5 R1, .i .i64 thing] = (impl_lastHand l thing).map fun r => .i .i64 r := by
  obtain ⟨rfl⟩ := H1
  rw [CP_eq]
  simp -dsimp +contextual only [↓evA, evB, evT, tys, encs, Nat.reduceAdd, Nat.reduceMul, Nat.reduceBEq, Nat.reduceLeDiff, Nat.reduceLT, Tryz.func155, Tryz.f155, a155, TP, orc_p, orc_l, e_impl_lastHand_l2]
  try simp only [impl_lastHand, evT, encs, c_js, r_map_some, e_need_t]
  all_goals rfl
theorem e_impl_IsChain_l5 (n : Nat) {R1} {l : List Hand} (t3 : Int) {R2} {t10 : List Hand} (t11 : Int) (t12 : Int) [H1 : EncL cHand R1 l] [H2 : EncL cHand R2 t10] : LP T (n + 7) 149 5 (frm [(0, .imm 5 R1), (3, .i .i64 t3), (10, .imm 5 R2), (11, .i .i64 t11), (12, .i .i64 t12)]) [] =
    lmap (run (impl_IsChain_l5 l t10 t11) (t3, t12)) (fun (zr : Bool) => (XE.ret, frm [(2, .b zr)], [])) (fun (zr : Unit) => (XE.exit 0, frm [], [])) := by
  obtain ⟨rfl⟩ := H1
  obtain ⟨rfl⟩ := H2
  rw [LP_eq]
  simp -dsimp only [↓evA, evB, lpG_eq, Tryz.func149, Tryz.f149, a149, TP, Nat.reduceAdd, Nat.reduceMul, Nat.reduceBEq, Nat.reduceLeDiff, Nat.reduceLT]
  refine run_map (fun (zs : Int × Int) => (frm [(0, .imm 5 (l.map cHand)), (3, .i .i64 zs.1), (10, .imm 5 (t10.map cHand)), (11, .i .i64 t11), (12, .i .i64 zs.2)], [])) (evO (fun (zr : Bool) => (XE.ret, frm [(2, .b zr)], [])) (fun (zr : Unit) => (XE.exit 0, frm [], []))) ?_ (t3, t12)
  rintro ⟨t3, t12⟩
  simp -dsimp +contextual only [↓evA, evB, evT, tys, encs, Nat.reduceAdd, Nat.reduceMul, Nat.reduceBEq, Nat.reduceLeDiff, Nat.reduceLT, TP, orc_p, orc_l, e_impl_InRange, e_impl_HandSeal, e_impl_lastHand]
  try simp only [impl_IsChain_l5, evT, encs, c_js, r_map_some, e_need_t]
  all_goals rfl
theorem e_impl_IsChain (n : Nat) {R1} {l : List Hand} [H1 : EncL cHand R1 l] : CP T (n + 8) 149 [.imm 5 R1] = (impl_IsChain l).map fun r => .b r := by
  obtain ⟨rfl⟩ := H1
  rw [CP_eq]
  simp -dsimp +contextual only [↓evA, evB, evT, tys, encs, Nat.reduceAdd, Nat.reduceMul, Nat.reduceBEq, Nat.reduceLeDiff, Nat.reduceLT, Tryz.func149, Tryz.f149, a149, TP, orc_p, orc_l, e_impl_IsChain_l5]
  try simp only [impl_IsChain, evT, encs, c_js, r_map_some, e_need_t]
  all_goals rfl
theorem e_impl_AreEntries_l4 (n : Nat) {R1} {l : List Entry} {R2} {t8 : List Entry} (t9 : Int) (t10 : Int) [H1 : EncL cEntry R1 l] [H2 : EncL cEntry R2 t8] : LP T (n + 2) 150 4 (frm [(0, .imm 4 R1), (8, .imm 4 R2), (9, .i .i64 t9), (10, .i .i64 t10)]) [] =
    lmap (run (impl_AreEntries_l4 l t8 t9) t10) (fun (zr : Bool) => (XE.ret, frm [(2, .b zr)], [])) (fun (zr : Unit) => (XE.exit 0, frm [], [])) := by
  obtain ⟨rfl⟩ := H1
  obtain ⟨rfl⟩ := H2
  rw [LP_eq]
  simp -dsimp only [↓evA, evB, lpG_eq, Tryz.func150, Tryz.f150, a150, TP, Nat.reduceAdd, Nat.reduceMul, Nat.reduceBEq, Nat.reduceLeDiff, Nat.reduceLT]
  refine run_map (fun (zs : Int) => (frm [(0, .imm 4 (l.map cEntry)), (8, .imm 4 (t8.map cEntry)), (9, .i .i64 t9), (10, .i .i64 zs)], [])) (evO (fun (zr : Bool) => (XE.ret, frm [(2, .b zr)], [])) (fun (zr : Unit) => (XE.exit 0, frm [], []))) ?_ t10
  intro t10
  simp -dsimp +contextual only [↓evA, evB, evT, tys, encs, Nat.reduceAdd, Nat.reduceMul, Nat.reduceBEq, Nat.reduceLeDiff, Nat.reduceLT, TP, orc_p, orc_l, e_impl_InRange]
  try simp only [impl_AreEntries_l4, evT, encs, c_js, r_map_some, e_need_t]
  all_goals rfl
theorem e_impl_AreEntries (n : Nat) {R1} {l : List Entry} [H1 : EncL cEntry R1 l] : CP T (n + 3) 150 [.imm 4 R1] = (impl_AreEntries l).map fun r => .b r := by
  obtain ⟨rfl⟩ := H1
  rw [CP_eq]
  simp -dsimp +contextual only [↓evA, evB, evT, tys, encs, Nat.reduceAdd, Nat.reduceMul, Nat.reduceBEq, Nat.reduceLeDiff, Nat.reduceLT, Tryz.func150, Tryz.f150, a150, TP, orc_p, orc_l, e_impl_AreEntries_l4]
  try simp only [impl_AreEntries, evT, encs, c_js, r_map_some, e_need_t]
  all_goals rfl
theorem e_impl_InHouse_l5 (n : Nat) {R1} {l : List Hand} (house : Int) {R2} {out : List Int} {R3} {t13 : List Hand} (t14 : Int) (t15 : Int) [H1 : EncL cHand R1 l] [H2 : EncL c_i64 R2 out] [H3 : EncL cHand R3 t13] : LP T (n + 3) 154 5 (frm [(0, .imm 5 R1), (1, .i .i64 house), (5, .sl 0), (13, .imm 5 R3), (14, .i .i64 t14), (15, .i .i64 t15)]) [some (Ent.lst 1 R2)] =
    (run (impl_InHouse_l5 l house t13 t14) (out, t15)).map (fun (zr : (List Int)) => (XE.exit 0, frm [(5, .sl 0)], [some (Ent.lst 1 (zr.map c_i64))])) := by
  obtain ⟨rfl⟩ := H1
  obtain ⟨rfl⟩ := H2
  obtain ⟨rfl⟩ := H3
  rw [LP_eq]
  simp -dsimp only [↓evA, evB, lpG_eq, Tryz.func154, Tryz.f154, a154, TP, Nat.reduceAdd, Nat.reduceMul, Nat.reduceBEq, Nat.reduceLeDiff, Nat.reduceLT]
  refine run_map (fun (zs : (List Int) × Int) => (frm [(0, .imm 5 (l.map cHand)), (1, .i .i64 house), (5, .sl 0), (13, .imm 5 (t13.map cHand)), (14, .i .i64 t14), (15, .i .i64 zs.2)], [some (Ent.lst 1 (zs.1.map c_i64))])) (fun (zr : (List Int)) => (XE.exit 0, frm [(5, .sl 0)], [some (Ent.lst 1 (zr.map c_i64))])) ?_ (out, t15)
  rintro ⟨out, t15⟩
  simp -dsimp +contextual only [↓evA, evB, evT, tys, encs, Nat.reduceAdd, Nat.reduceMul, Nat.reduceBEq, Nat.reduceLeDiff, Nat.reduceLT, TP, orc_p, orc_l, e_impl_lastHand]
  try simp only [impl_InHouse_l5, evT, encs, c_js, r_map_some, e_need_t]
  all_goals rfl
theorem e_impl_InHouse (n : Nat) {R1} {l : List Hand} (house : Int) [H1 : EncL cHand R1 l] : CP T (n + 9) 154 [.imm 5 R1, .i .i64 house] = (impl_InHouse l house).map fun r => .own 1 (r.map c_i64) := by
  obtain ⟨rfl⟩ := H1
  rw [CP_eq]
  simp -dsimp +contextual only [↓evA, evB, evT, tys, encs, Nat.reduceAdd, Nat.reduceMul, Nat.reduceBEq, Nat.reduceLeDiff, Nat.reduceLT, Tryz.func154, Tryz.f154, a154, TP, orc_p, orc_l, srt, e_impl_IsChain, e_impl_InHouse_l5]
  try simp only [impl_InHouse, evT, encs, c_js, r_map_some, e_need_t]
  all_goals rfl
theorem e_slices_Index_int_l2 (n : Nat) {R1} {s : List Int} (v : Int) (t7 : Int) (t8 : Int) [H1 : EncL c_i64 R1 s] : LP T (n + 1) 222 2 (frm [(0, .imm 1 R1), (1, .i .i64 v), (7, .i .i64 t7), (8, .i .i64 t8)]) [] =
    lmap (run (slices_Index_int_l2 s v t7) t8) (fun (zr : Int) => (XE.ret, frm [(4, .i .i64 zr)], [])) (fun (zr : Unit) => (XE.exit 0, frm [], [])) := by
  obtain ⟨rfl⟩ := H1
  rw [LP_eq]
  simp -dsimp only [↓evA, evB, lpG_eq, Tryz.func222, Tryz.f222, a222, TP, Nat.reduceAdd, Nat.reduceMul, Nat.reduceBEq, Nat.reduceLeDiff, Nat.reduceLT]
  refine run_map (fun (zs : Int) => (frm [(0, .imm 1 (s.map c_i64)), (1, .i .i64 v), (7, .i .i64 t7), (8, .i .i64 zs)], [])) (evO (fun (zr : Int) => (XE.ret, frm [(4, .i .i64 zr)], [])) (fun (zr : Unit) => (XE.exit 0, frm [], []))) ?_ t8
  intro t8
  simp -dsimp +contextual only [↓evA, evB, evT, tys, encs, Nat.reduceAdd, Nat.reduceMul, Nat.reduceBEq, Nat.reduceLeDiff, Nat.reduceLT, TP, orc_p, orc_l]
  try simp only [slices_Index_int_l2, evT, encs, c_js, r_map_some, e_need_t]
  all_goals rfl
theorem e_slices_Index_int (n : Nat) {R1} {s : List Int} (v : Int) [H1 : EncL c_i64 R1 s] : CP T (n + 2) 222 [.imm 1 R1, .i .i64 v] = (slices_Index_int s v).map fun r => .i .i64 r := by
  obtain ⟨rfl⟩ := H1
  rw [CP_eq]
  simp -dsimp +contextual only [↓evA, evB, evT, tys, encs, Nat.reduceAdd, Nat.reduceMul, Nat.reduceBEq, Nat.reduceLeDiff, Nat.reduceLT, Tryz.func222, Tryz.f222, a222, TP, orc_p, orc_l, e_slices_Index_int_l2]
  try simp only [slices_Index_int, evT, encs, c_js, r_map_some, e_need_t]
  all_goals rfl
theorem e_slices_Contains_int (n : Nat) {R1} {s : List Int} (v : Int) [H1 : EncL c_i64 R1 s] : CP T (n + 3) 156 [.imm 1 R1, .i .i64 v] = (slices_Contains_int s v).map fun r => .b r := by
  obtain ⟨rfl⟩ := H1
  rw [CP_eq]
  simp -dsimp +contextual only [↓evA, evB, evT, tys, encs, Nat.reduceAdd, Nat.reduceMul, Nat.reduceBEq, Nat.reduceLeDiff, Nat.reduceLT, Tryz.func156, Tryz.f156, a156, TP, orc_p, orc_l, e_slices_Index_int]
  try simp only [slices_Contains_int, evT, encs, c_js, r_map_some, e_need_t]
  all_goals rfl
theorem e_impl_FindThing_1 (n : Nat) (fxThingxId : Int) (fxThingxKind : Int) (fxThingxColour : Int) (fxThingxSize : Int) (fxThingxWorth : Int) (fxPlace : Int) (fxAt : Int) (fxFinder : Int) (c : Int) : CP T (n + 1) 225 [.agg [.i .i64 fxThingxId, .i .i64 fxThingxKind, .i .i64 fxThingxColour, .i .i64 fxThingxSize, .i .i64 fxThingxWorth, .i .i64 fxPlace, .i .i64 fxAt, .i .i64 fxFinder], .iptr 1 [[.i .i64 c]] 0 0] = (impl_FindThing_1 (⟨⟨fxThingxId, fxThingxKind, fxThingxColour, fxThingxSize, fxThingxWorth⟩, fxPlace, fxAt, fxFinder⟩ : Find) c).map fun r => .b r := by
  rw [CP_eq]
  simp -dsimp +contextual only [↓evA, evB, evT, tys, encs, Nat.reduceAdd, Nat.reduceMul, Nat.reduceBEq, Nat.reduceLeDiff, Nat.reduceLT, Tryz.func225, Tryz.f225, a225, TP, orc_p, orc_l]
  try simp only [impl_FindThing_1, evT, encs, c_js, r_map_some, e_need_t]
  all_goals rfl
theorem e_slices_IndexFunc_Find_cimpl_FindThing_1_l2 (n : Nat) {R1} {s : List Find} (f : Int) (t7 : Int) (t8 : Int) [H1 : EncL cFind R1 s] : LP T (n + 2) 224 2 (frm [(0, .imm 8 R1), (1, .clo 225 [.iptr 1 [[.i .i64 f]] 0 0]), (7, .i .i64 t7), (8, .i .i64 t8)]) [] =
    lmap (run (slices_IndexFunc_Find_cimpl_FindThing_1_l2 s f t7) t8) (fun (zr : Int) => (XE.ret, frm [(4, .i .i64 zr)], [])) (fun (zr : Unit) => (XE.exit 0, frm [], [])) := by
  obtain ⟨rfl⟩ := H1
  rw [LP_eq]
  simp -dsimp only [↓evA, evB, lpG_eq, Tryz.func224, Tryz.f224, a224, TP, Nat.reduceAdd, Nat.reduceMul, Nat.reduceBEq, Nat.reduceLeDiff, Nat.reduceLT]
  refine run_map (fun (zs : Int) => (frm [(0, .imm 8 (s.map cFind)), (1, .clo 225 [.iptr 1 [[.i .i64 f]] 0 0]), (7, .i .i64 t7), (8, .i .i64 zs)], [])) (evO (fun (zr : Int) => (XE.ret, frm [(4, .i .i64 zr)], [])) (fun (zr : Unit) => (XE.exit 0, frm [], []))) ?_ t8
  intro t8
  simp -dsimp +contextual only [↓evA, evB, evT, tys, encs, Nat.reduceAdd, Nat.reduceMul, Nat.reduceBEq, Nat.reduceLeDiff, Nat.reduceLT, TP, orc_p, orc_l, e_impl_FindThing_1]
  try simp only [slices_IndexFunc_Find_cimpl_FindThing_1_l2, evT, encs, c_js, r_map_some, e_need_t]
  all_goals rfl
theorem e_slices_IndexFunc_Find_cimpl_FindThing_1 (n : Nat) {R1} {s : List Find} (c : Int) [H1 : EncL cFind R1 s] : CP T (n + 3) 224 [.imm 8 R1, .clo 225 [.iptr 1 [[.i .i64 c]] 0 0]] = (slices_IndexFunc_Find_cimpl_FindThing_1 s c).map fun r => .i .i64 r := by
  obtain ⟨rfl⟩ := H1
  rw [CP_eq]
  simp -dsimp +contextual only [↓evA, evB, evT, tys, encs, Nat.reduceAdd, Nat.reduceMul, Nat.reduceBEq, Nat.reduceLeDiff, Nat.reduceLT, Tryz.func224, Tryz.f224, a224, TP, orc_p, orc_l, e_slices_IndexFunc_Find_cimpl_FindThing_1_l2]
  try simp only [slices_IndexFunc_Find_cimpl_FindThing_1, evT, encs, c_js, r_map_some, e_need_t]
  all_goals rfl
theorem e_impl_FindThing (n : Nat) {R1} {l : List Find} (id : Int) [H1 : EncL cFind R1 l] : CP T (n + 4) 158 [.imm 8 R1, .i .i64 id] = (impl_FindThing l id).map fun r => .i .i64 r := by
  obtain ⟨rfl⟩ := H1
  rw [CP_eq]
  simp -dsimp +contextual only [↓evA, evB, evT, tys, encs, Nat.reduceAdd, Nat.reduceMul, Nat.reduceBEq, Nat.reduceLeDiff, Nat.reduceLT, Tryz.func158, Tryz.f158, a158, TP, orc_p, orc_l, e_slices_IndexFunc_Find_cimpl_FindThing_1]
  try simp only [impl_FindThing, evT, encs, c_js, r_map_some, e_need_t]
  all_goals rfl
theorem e_impl_areKept_l5 (n : Nat) (t1xNo : Int) {R1} {t1xFinds : List Find} {R2} {t1xSecrets : List Secret} {R3} {t1xSlots : List Slot} {R4} {t1xClaims : List Claim} {R5} {t1xTrials : List Trial} {R6} {t1xChain : List Hand} {R7} {t1xBook : List Entry} (t1xNow : Int) {R8} {t3 : List Int} {R9} {t23 : List Find} (t24 : Int) (t25 : Int) [H1 : EncL cFind R1 t1xFinds] [H2 : EncL cSecret R2 t1xSecrets] [H3 : EncL cSlot R3 t1xSlots] [H4 : EncL cClaim R4 t1xClaims] [H5 : EncL cTrial R5 t1xTrials] [H6 : EncL cHand R6 t1xChain] [H7 : EncL cEntry R7 t1xBook] [H8 : EncL c_i64 R8 t3] [H9 : EncL cFind R9 t23] : LP T (n + 5) 151 5 (frm [(1, .ptr 0 0 0), (3, .sl 1), (23, .imm 8 R9), (24, .i .i64 t24), (25, .i .i64 t25)]) [some (Ent.box [.i .i64 t1xNo, .imm 8 R1, .imm 3 R2, .imm 3 R3, .imm 5 R4, .imm 4 R5, .imm 5 R6, .imm 4 R7, .i .i64 t1xNow]), some (Ent.lst 1 R8)] =
    lmap (run (impl_areKept_l5 (⟨t1xNo, t1xFinds, t1xSecrets, t1xSlots, t1xClaims, t1xTrials, t1xChain, t1xBook, t1xNow⟩ : House) t3 t23 t24) t25) (fun (zr : Bool) => (XE.ret, frm [(2, .b zr)], [])) (fun (zr : Unit) => (XE.exit 0, frm [(1, .ptr 0 0 0), (3, .sl 1)], [some (Ent.box [.i .i64 (⟨t1xNo, t1xFinds, t1xSecrets, t1xSlots, t1xClaims, t1xTrials, t1xChain, t1xBook, t1xNow⟩ : House).No, .imm 8 ((⟨t1xNo, t1xFinds, t1xSecrets, t1xSlots, t1xClaims, t1xTrials, t1xChain, t1xBook, t1xNow⟩ : House).Finds.map cFind), .imm 3 ((⟨t1xNo, t1xFinds, t1xSecrets, t1xSlots, t1xClaims, t1xTrials, t1xChain, t1xBook, t1xNow⟩ : House).Secrets.map cSecret), .imm 3 ((⟨t1xNo, t1xFinds, t1xSecrets, t1xSlots, t1xClaims, t1xTrials, t1xChain, t1xBook, t1xNow⟩ : House).Slots.map cSlot), .imm 5 ((⟨t1xNo, t1xFinds, t1xSecrets, t1xSlots, t1xClaims, t1xTrials, t1xChain, t1xBook, t1xNow⟩ : House).Claims.map cClaim), .imm 4 ((⟨t1xNo, t1xFinds, t1xSecrets, t1xSlots, t1xClaims, t1xTrials, t1xChain, t1xBook, t1xNow⟩ : House).Trials.map cTrial), .imm 5 ((⟨t1xNo, t1xFinds, t1xSecrets, t1xSlots, t1xClaims, t1xTrials, t1xChain, t1xBook, t1xNow⟩ : House).Chain.map cHand), .imm 4 ((⟨t1xNo, t1xFinds, t1xSecrets, t1xSlots, t1xClaims, t1xTrials, t1xChain, t1xBook, t1xNow⟩ : House).Book.map cEntry), .i .i64 (⟨t1xNo, t1xFinds, t1xSecrets, t1xSlots, t1xClaims, t1xTrials, t1xChain, t1xBook, t1xNow⟩ : House).Now]), some (Ent.lst 1 (t3.map c_i64))])) := by
  obtain ⟨rfl⟩ := H1
  obtain ⟨rfl⟩ := H2
  obtain ⟨rfl⟩ := H3
  obtain ⟨rfl⟩ := H4
  obtain ⟨rfl⟩ := H5
  obtain ⟨rfl⟩ := H6
  obtain ⟨rfl⟩ := H7
  obtain ⟨rfl⟩ := H8
  obtain ⟨rfl⟩ := H9
  rw [LP_eq]
  simp -dsimp only [↓evA, evB, lpG_eq, Tryz.func151, Tryz.f151, a151, TP, Nat.reduceAdd, Nat.reduceMul, Nat.reduceBEq, Nat.reduceLeDiff, Nat.reduceLT]
  refine run_map (fun (zs : Int) => (frm [(1, .ptr 0 0 0), (3, .sl 1), (23, .imm 8 (t23.map cFind)), (24, .i .i64 t24), (25, .i .i64 zs)], [some (Ent.box [.i .i64 (⟨t1xNo, t1xFinds, t1xSecrets, t1xSlots, t1xClaims, t1xTrials, t1xChain, t1xBook, t1xNow⟩ : House).No, .imm 8 ((⟨t1xNo, t1xFinds, t1xSecrets, t1xSlots, t1xClaims, t1xTrials, t1xChain, t1xBook, t1xNow⟩ : House).Finds.map cFind), .imm 3 ((⟨t1xNo, t1xFinds, t1xSecrets, t1xSlots, t1xClaims, t1xTrials, t1xChain, t1xBook, t1xNow⟩ : House).Secrets.map cSecret), .imm 3 ((⟨t1xNo, t1xFinds, t1xSecrets, t1xSlots, t1xClaims, t1xTrials, t1xChain, t1xBook, t1xNow⟩ : House).Slots.map cSlot), .imm 5 ((⟨t1xNo, t1xFinds, t1xSecrets, t1xSlots, t1xClaims, t1xTrials, t1xChain, t1xBook, t1xNow⟩ : House).Claims.map cClaim), .imm 4 ((⟨t1xNo, t1xFinds, t1xSecrets, t1xSlots, t1xClaims, t1xTrials, t1xChain, t1xBook, t1xNow⟩ : House).Trials.map cTrial), .imm 5 ((⟨t1xNo, t1xFinds, t1xSecrets, t1xSlots, t1xClaims, t1xTrials, t1xChain, t1xBook, t1xNow⟩ : House).Chain.map cHand), .imm 4 ((⟨t1xNo, t1xFinds, t1xSecrets, t1xSlots, t1xClaims, t1xTrials, t1xChain, t1xBook, t1xNow⟩ : House).Book.map cEntry), .i .i64 (⟨t1xNo, t1xFinds, t1xSecrets, t1xSlots, t1xClaims, t1xTrials, t1xChain, t1xBook, t1xNow⟩ : House).Now]), some (Ent.lst 1 (t3.map c_i64))])) (evO (fun (zr : Bool) => (XE.ret, frm [(2, .b zr)], [])) (fun (zr : Unit) => (XE.exit 0, frm [(1, .ptr 0 0 0), (3, .sl 1)], [some (Ent.box [.i .i64 (⟨t1xNo, t1xFinds, t1xSecrets, t1xSlots, t1xClaims, t1xTrials, t1xChain, t1xBook, t1xNow⟩ : House).No, .imm 8 ((⟨t1xNo, t1xFinds, t1xSecrets, t1xSlots, t1xClaims, t1xTrials, t1xChain, t1xBook, t1xNow⟩ : House).Finds.map cFind), .imm 3 ((⟨t1xNo, t1xFinds, t1xSecrets, t1xSlots, t1xClaims, t1xTrials, t1xChain, t1xBook, t1xNow⟩ : House).Secrets.map cSecret), .imm 3 ((⟨t1xNo, t1xFinds, t1xSecrets, t1xSlots, t1xClaims, t1xTrials, t1xChain, t1xBook, t1xNow⟩ : House).Slots.map cSlot), .imm 5 ((⟨t1xNo, t1xFinds, t1xSecrets, t1xSlots, t1xClaims, t1xTrials, t1xChain, t1xBook, t1xNow⟩ : House).Claims.map cClaim), .imm 4 ((⟨t1xNo, t1xFinds, t1xSecrets, t1xSlots, t1xClaims, t1xTrials, t1xChain, t1xBook, t1xNow⟩ : House).Trials.map cTrial), .imm 5 ((⟨t1xNo, t1xFinds, t1xSecrets, t1xSlots, t1xClaims, t1xTrials, t1xChain, t1xBook, t1xNow⟩ : House).Chain.map cHand), .imm 4 ((⟨t1xNo, t1xFinds, t1xSecrets, t1xSlots, t1xClaims, t1xTrials, t1xChain, t1xBook, t1xNow⟩ : House).Book.map cEntry), .i .i64 (⟨t1xNo, t1xFinds, t1xSecrets, t1xSlots, t1xClaims, t1xTrials, t1xChain, t1xBook, t1xNow⟩ : House).Now]), some (Ent.lst 1 (t3.map c_i64))]))) ?_ t25
  intro t25
  simp -dsimp +contextual only [↓evA, evB, evT, tys, encs, Nat.reduceAdd, Nat.reduceMul, Nat.reduceBEq, Nat.reduceLeDiff, Nat.reduceLT, TP, orc_p, orc_l, e_impl_slotWith, e_slices_Contains_int]
  try simp only [impl_areKept_l5, evT, encs, c_js, r_map_some, e_need_t]
  all_goals rfl
theorem e_impl_areKept_l11 (n : Nat) (t1xNo : Int) {R1} {t1xFinds : List Find} {R2} {t1xSecrets : List Secret} {R3} {t1xSlots : List Slot} {R4} {t1xClaims : List Claim} {R5} {t1xTrials : List Trial} {R6} {t1xChain : List Hand} {R7} {t1xBook : List Entry} (t1xNow : Int) {R8} {t3 : List Int} {R9} {t57 : List Slot} (t58 : Int) (t59 : Int) [H1 : EncL cFind R1 t1xFinds] [H2 : EncL cSecret R2 t1xSecrets] [H3 : EncL cSlot R3 t1xSlots] [H4 : EncL cClaim R4 t1xClaims] [H5 : EncL cTrial R5 t1xTrials] [H6 : EncL cHand R6 t1xChain] [H7 : EncL cEntry R7 t1xBook] [H8 : EncL c_i64 R8 t3] [H9 : EncL cSlot R9 t57] : LP T (n + 5) 151 11 (frm [(1, .ptr 0 0 0), (3, .sl 1), (57, .imm 3 R9), (58, .i .i64 t58), (59, .i .i64 t59)]) [some (Ent.box [.i .i64 t1xNo, .imm 8 R1, .imm 3 R2, .imm 3 R3, .imm 5 R4, .imm 4 R5, .imm 5 R6, .imm 4 R7, .i .i64 t1xNow]), some (Ent.lst 1 R8)] =
    lmap (run (impl_areKept_l11 (⟨t1xNo, t1xFinds, t1xSecrets, t1xSlots, t1xClaims, t1xTrials, t1xChain, t1xBook, t1xNow⟩ : House) t3 t57 t58) t59) (fun (zr : Bool) => (XE.ret, frm [(2, .b zr)], [])) (fun (zr : Unit) => (XE.exit 2, frm [(1, .ptr 0 0 0), (3, .sl 1)], [some (Ent.box [.i .i64 (⟨t1xNo, t1xFinds, t1xSecrets, t1xSlots, t1xClaims, t1xTrials, t1xChain, t1xBook, t1xNow⟩ : House).No, .imm 8 ((⟨t1xNo, t1xFinds, t1xSecrets, t1xSlots, t1xClaims, t1xTrials, t1xChain, t1xBook, t1xNow⟩ : House).Finds.map cFind), .imm 3 ((⟨t1xNo, t1xFinds, t1xSecrets, t1xSlots, t1xClaims, t1xTrials, t1xChain, t1xBook, t1xNow⟩ : House).Secrets.map cSecret), .imm 3 ((⟨t1xNo, t1xFinds, t1xSecrets, t1xSlots, t1xClaims, t1xTrials, t1xChain, t1xBook, t1xNow⟩ : House).Slots.map cSlot), .imm 5 ((⟨t1xNo, t1xFinds, t1xSecrets, t1xSlots, t1xClaims, t1xTrials, t1xChain, t1xBook, t1xNow⟩ : House).Claims.map cClaim), .imm 4 ((⟨t1xNo, t1xFinds, t1xSecrets, t1xSlots, t1xClaims, t1xTrials, t1xChain, t1xBook, t1xNow⟩ : House).Trials.map cTrial), .imm 5 ((⟨t1xNo, t1xFinds, t1xSecrets, t1xSlots, t1xClaims, t1xTrials, t1xChain, t1xBook, t1xNow⟩ : House).Chain.map cHand), .imm 4 ((⟨t1xNo, t1xFinds, t1xSecrets, t1xSlots, t1xClaims, t1xTrials, t1xChain, t1xBook, t1xNow⟩ : House).Book.map cEntry), .i .i64 (⟨t1xNo, t1xFinds, t1xSecrets, t1xSlots, t1xClaims, t1xTrials, t1xChain, t1xBook, t1xNow⟩ : House).Now]), some (Ent.lst 1 (t3.map c_i64))])) := by
  obtain ⟨rfl⟩ := H1
  obtain ⟨rfl⟩ := H2
  obtain ⟨rfl⟩ := H3
  obtain ⟨rfl⟩ := H4
  obtain ⟨rfl⟩ := H5
  obtain ⟨rfl⟩ := H6
  obtain ⟨rfl⟩ := H7
  obtain ⟨rfl⟩ := H8
  obtain ⟨rfl⟩ := H9
  rw [LP_eq]
  simp -dsimp only [↓evA, evB, lpG_eq, Tryz.func151, Tryz.f151, a151, TP, Nat.reduceAdd, Nat.reduceMul, Nat.reduceBEq, Nat.reduceLeDiff, Nat.reduceLT]
  refine run_map (fun (zs : Int) => (frm [(1, .ptr 0 0 0), (3, .sl 1), (57, .imm 3 (t57.map cSlot)), (58, .i .i64 t58), (59, .i .i64 zs)], [some (Ent.box [.i .i64 (⟨t1xNo, t1xFinds, t1xSecrets, t1xSlots, t1xClaims, t1xTrials, t1xChain, t1xBook, t1xNow⟩ : House).No, .imm 8 ((⟨t1xNo, t1xFinds, t1xSecrets, t1xSlots, t1xClaims, t1xTrials, t1xChain, t1xBook, t1xNow⟩ : House).Finds.map cFind), .imm 3 ((⟨t1xNo, t1xFinds, t1xSecrets, t1xSlots, t1xClaims, t1xTrials, t1xChain, t1xBook, t1xNow⟩ : House).Secrets.map cSecret), .imm 3 ((⟨t1xNo, t1xFinds, t1xSecrets, t1xSlots, t1xClaims, t1xTrials, t1xChain, t1xBook, t1xNow⟩ : House).Slots.map cSlot), .imm 5 ((⟨t1xNo, t1xFinds, t1xSecrets, t1xSlots, t1xClaims, t1xTrials, t1xChain, t1xBook, t1xNow⟩ : House).Claims.map cClaim), .imm 4 ((⟨t1xNo, t1xFinds, t1xSecrets, t1xSlots, t1xClaims, t1xTrials, t1xChain, t1xBook, t1xNow⟩ : House).Trials.map cTrial), .imm 5 ((⟨t1xNo, t1xFinds, t1xSecrets, t1xSlots, t1xClaims, t1xTrials, t1xChain, t1xBook, t1xNow⟩ : House).Chain.map cHand), .imm 4 ((⟨t1xNo, t1xFinds, t1xSecrets, t1xSlots, t1xClaims, t1xTrials, t1xChain, t1xBook, t1xNow⟩ : House).Book.map cEntry), .i .i64 (⟨t1xNo, t1xFinds, t1xSecrets, t1xSlots, t1xClaims, t1xTrials, t1xChain, t1xBook, t1xNow⟩ : House).Now]), some (Ent.lst 1 (t3.map c_i64))])) (evO (fun (zr : Bool) => (XE.ret, frm [(2, .b zr)], [])) (fun (zr : Unit) => (XE.exit 2, frm [(1, .ptr 0 0 0), (3, .sl 1)], [some (Ent.box [.i .i64 (⟨t1xNo, t1xFinds, t1xSecrets, t1xSlots, t1xClaims, t1xTrials, t1xChain, t1xBook, t1xNow⟩ : House).No, .imm 8 ((⟨t1xNo, t1xFinds, t1xSecrets, t1xSlots, t1xClaims, t1xTrials, t1xChain, t1xBook, t1xNow⟩ : House).Finds.map cFind), .imm 3 ((⟨t1xNo, t1xFinds, t1xSecrets, t1xSlots, t1xClaims, t1xTrials, t1xChain, t1xBook, t1xNow⟩ : House).Secrets.map cSecret), .imm 3 ((⟨t1xNo, t1xFinds, t1xSecrets, t1xSlots, t1xClaims, t1xTrials, t1xChain, t1xBook, t1xNow⟩ : House).Slots.map cSlot), .imm 5 ((⟨t1xNo, t1xFinds, t1xSecrets, t1xSlots, t1xClaims, t1xTrials, t1xChain, t1xBook, t1xNow⟩ : House).Claims.map cClaim), .imm 4 ((⟨t1xNo, t1xFinds, t1xSecrets, t1xSlots, t1xClaims, t1xTrials, t1xChain, t1xBook, t1xNow⟩ : House).Trials.map cTrial), .imm 5 ((⟨t1xNo, t1xFinds, t1xSecrets, t1xSlots, t1xClaims, t1xTrials, t1xChain, t1xBook, t1xNow⟩ : House).Chain.map cHand), .imm 4 ((⟨t1xNo, t1xFinds, t1xSecrets, t1xSlots, t1xClaims, t1xTrials, t1xChain, t1xBook, t1xNow⟩ : House).Book.map cEntry), .i .i64 (⟨t1xNo, t1xFinds, t1xSecrets, t1xSlots, t1xClaims, t1xTrials, t1xChain, t1xBook, t1xNow⟩ : House).Now]), some (Ent.lst 1 (t3.map c_i64))]))) ?_ t59
  intro t59
  simp -dsimp +contextual only [↓evA, evB, evT, tys, encs, Nat.reduceAdd, Nat.reduceMul, Nat.reduceBEq, Nat.reduceLeDiff, Nat.reduceLT, TP, orc_p, orc_l, e_impl_FindThing]
  try simp only [impl_areKept_l11, evT, encs, c_js, r_map_some, e_need_t]
  all_goals rfl
theorem e_impl_areKept_l17 (n : Nat) (t1xNo : Int) {R1} {t1xFinds : List Find} {R2} {t1xSecrets : List Secret} {R3} {t1xSlots : List Slot} {R4} {t1xClaims : List Claim} {R5} {t1xTrials : List Trial} {R6} {t1xChain : List Hand} {R7} {t1xBook : List Entry} (t1xNow : Int) {R8} {t75 : List Int} (t76 : Int) (t77 : Int) [H1 : EncL cFind R1 t1xFinds] [H2 : EncL cSecret R2 t1xSecrets] [H3 : EncL cSlot R3 t1xSlots] [H4 : EncL cClaim R4 t1xClaims] [H5 : EncL cTrial R5 t1xTrials] [H6 : EncL cHand R6 t1xChain] [H7 : EncL cEntry R7 t1xBook] [H8 : EncL c_i64 R8 t75] : LP T (n + 5) 151 17 (frm [(1, .ptr 0 0 0), (75, .sl 1), (76, .i .i64 t76), (77, .i .i64 t77)]) [some (Ent.box [.i .i64 t1xNo, .imm 8 R1, .imm 3 R2, .imm 3 R3, .imm 5 R4, .imm 4 R5, .imm 5 R6, .imm 4 R7, .i .i64 t1xNow]), some (Ent.lst 1 R8)] =
    lmap (run (impl_areKept_l17 (⟨t1xNo, t1xFinds, t1xSecrets, t1xSlots, t1xClaims, t1xTrials, t1xChain, t1xBook, t1xNow⟩ : House) t75 t76) t77) (fun (zr : Bool) => (XE.ret, frm [(2, .b zr)], [])) (fun (zr : Unit) => (XE.exit 4, frm [], [])) := by
  obtain ⟨rfl⟩ := H1
  obtain ⟨rfl⟩ := H2
  obtain ⟨rfl⟩ := H3
  obtain ⟨rfl⟩ := H4
  obtain ⟨rfl⟩ := H5
  obtain ⟨rfl⟩ := H6
  obtain ⟨rfl⟩ := H7
  obtain ⟨rfl⟩ := H8
  rw [LP_eq]
  simp -dsimp only [↓evA, evB, lpG_eq, Tryz.func151, Tryz.f151, a151, TP, Nat.reduceAdd, Nat.reduceMul, Nat.reduceBEq, Nat.reduceLeDiff, Nat.reduceLT]
  refine run_map (fun (zs : Int) => (frm [(1, .ptr 0 0 0), (75, .sl 1), (76, .i .i64 t76), (77, .i .i64 zs)], [some (Ent.box [.i .i64 (⟨t1xNo, t1xFinds, t1xSecrets, t1xSlots, t1xClaims, t1xTrials, t1xChain, t1xBook, t1xNow⟩ : House).No, .imm 8 ((⟨t1xNo, t1xFinds, t1xSecrets, t1xSlots, t1xClaims, t1xTrials, t1xChain, t1xBook, t1xNow⟩ : House).Finds.map cFind), .imm 3 ((⟨t1xNo, t1xFinds, t1xSecrets, t1xSlots, t1xClaims, t1xTrials, t1xChain, t1xBook, t1xNow⟩ : House).Secrets.map cSecret), .imm 3 ((⟨t1xNo, t1xFinds, t1xSecrets, t1xSlots, t1xClaims, t1xTrials, t1xChain, t1xBook, t1xNow⟩ : House).Slots.map cSlot), .imm 5 ((⟨t1xNo, t1xFinds, t1xSecrets, t1xSlots, t1xClaims, t1xTrials, t1xChain, t1xBook, t1xNow⟩ : House).Claims.map cClaim), .imm 4 ((⟨t1xNo, t1xFinds, t1xSecrets, t1xSlots, t1xClaims, t1xTrials, t1xChain, t1xBook, t1xNow⟩ : House).Trials.map cTrial), .imm 5 ((⟨t1xNo, t1xFinds, t1xSecrets, t1xSlots, t1xClaims, t1xTrials, t1xChain, t1xBook, t1xNow⟩ : House).Chain.map cHand), .imm 4 ((⟨t1xNo, t1xFinds, t1xSecrets, t1xSlots, t1xClaims, t1xTrials, t1xChain, t1xBook, t1xNow⟩ : House).Book.map cEntry), .i .i64 (⟨t1xNo, t1xFinds, t1xSecrets, t1xSlots, t1xClaims, t1xTrials, t1xChain, t1xBook, t1xNow⟩ : House).Now]), some (Ent.lst 1 (t75.map c_i64))])) (evO (fun (zr : Bool) => (XE.ret, frm [(2, .b zr)], [])) (fun (zr : Unit) => (XE.exit 4, frm [], []))) ?_ t77
  intro t77
  simp -dsimp +contextual only [↓evA, evB, evT, tys, encs, Nat.reduceAdd, Nat.reduceMul, Nat.reduceBEq, Nat.reduceLeDiff, Nat.reduceLT, TP, orc_p, orc_l, e_impl_FindThing]
  try simp only [impl_areKept_l17, evT, encs, c_js, r_map_some, e_need_t]
  all_goals rfl
theorem e_impl_areKept (n : Nat) (vhxNo : Int) {R1} {vhxFinds : List Find} {R2} {vhxSecrets : List Secret} {R3} {vhxSlots : List Slot} {R4} {vhxClaims : List Claim} {R5} {vhxTrials : List Trial} {R6} {vhxChain : List Hand} {R7} {vhxBook : List Entry} (vhxNow : Int) [H1 : EncL cFind R1 vhxFinds] [H2 : EncL cSecret R2 vhxSecrets] [H3 : EncL cSlot R3 vhxSlots] [H4 : EncL cClaim R4 vhxClaims] [H5 : EncL cTrial R5 vhxTrials] [H6 : EncL cHand R6 vhxChain] [H7 : EncL cEntry R7 vhxBook] : CP T (n + 10) 151 [.agg [.i .i64 vhxNo, .imm 8 R1, .imm 3 R2, .imm 3 R3, .imm 5 R4, .imm 4 R5, .imm 5 R6, .imm 4 R7, .i .i64 vhxNow]] = (impl_areKept (⟨vhxNo, vhxFinds, vhxSecrets, vhxSlots, vhxClaims, vhxTrials, vhxChain, vhxBook, vhxNow⟩ : House)).map fun r => .b r := by
  obtain ⟨rfl⟩ := H1
  obtain ⟨rfl⟩ := H2
  obtain ⟨rfl⟩ := H3
  obtain ⟨rfl⟩ := H4
  obtain ⟨rfl⟩ := H5
  obtain ⟨rfl⟩ := H6
  obtain ⟨rfl⟩ := H7
  rw [CP_eq]
  simp -dsimp +contextual only [↓evA, evB, evT, tys, encs, Nat.reduceAdd, Nat.reduceMul, Nat.reduceBEq, Nat.reduceLeDiff, Nat.reduceLT, Tryz.func151, Tryz.f151, a151, TP, orc_p, orc_l, e_impl_InHouse, e_impl_areKept_l5, e_impl_areKept_l11, e_impl_areKept_l17]
  try simp only [impl_areKept, evT, encs, c_js, r_map_some, e_need_t]
  all_goals rfl
theorem e_impl_IsTrial (n : Nat) (xxClaim : Int) (xxAsked : Int) (xxRight : Int) (xxWrong : Int) : CP T (n + 2) 191 [.agg [.i .i64 xxClaim, .i .i64 xxAsked, .i .i64 xxRight, .i .i64 xxWrong]] = (impl_IsTrial (⟨xxClaim, xxAsked, xxRight, xxWrong⟩ : Trial)).map fun r => .b r := by
  rw [CP_eq]
  simp -dsimp +contextual only [↓evA, evB, evT, tys, encs, Nat.reduceAdd, Nat.reduceMul, Nat.reduceBEq, Nat.reduceLeDiff, Nat.reduceLT, Tryz.func191, Tryz.f191, a191, TP, orc_p, orc_l, e_impl_InRange]
  try simp only [impl_IsTrial, evT, encs, c_js, r_map_some, e_need_t]
  all_goals rfl
theorem e_impl_secretOf_1 (n : Nat) (xxThing : Int) {R1} {xxMarks : List Mark} (xxSalt : Int) (c : Int) [H1 : EncL cMark R1 xxMarks] : CP T (n + 1) 234 [.agg [.i .i64 xxThing, .imm 2 R1, .i .i64 xxSalt], .iptr 1 [[.i .i64 c]] 0 0] = (impl_secretOf_1 (⟨xxThing, xxMarks, xxSalt⟩ : Secret) c).map fun r => .b r := by
  obtain ⟨rfl⟩ := H1
  rw [CP_eq]
  simp -dsimp +contextual only [↓evA, evB, evT, tys, encs, Nat.reduceAdd, Nat.reduceMul, Nat.reduceBEq, Nat.reduceLeDiff, Nat.reduceLT, Tryz.func234, Tryz.f234, a234, TP, orc_p, orc_l]
  try simp only [impl_secretOf_1, evT, encs, c_js, r_map_some, e_need_t]
  all_goals rfl
theorem e_slices_IndexFunc_Secret_cimpl_secretOf_1_l2 (n : Nat) {R1} {s : List Secret} (f : Int) (t7 : Int) (t8 : Int) [H1 : EncL cSecret R1 s] : LP T (n + 2) 233 2 (frm [(0, .imm 3 R1), (1, .clo 234 [.iptr 1 [[.i .i64 f]] 0 0]), (7, .i .i64 t7), (8, .i .i64 t8)]) [] =
    lmap (run (slices_IndexFunc_Secret_cimpl_secretOf_1_l2 s f t7) t8) (fun (zr : Int) => (XE.ret, frm [(4, .i .i64 zr)], [])) (fun (zr : Unit) => (XE.exit 0, frm [], [])) := by
  obtain ⟨rfl⟩ := H1
  rw [LP_eq]
  simp -dsimp only [↓evA, evB, lpG_eq, Tryz.func233, Tryz.f233, a233, TP, Nat.reduceAdd, Nat.reduceMul, Nat.reduceBEq, Nat.reduceLeDiff, Nat.reduceLT]
  refine run_map (fun (zs : Int) => (frm [(0, .imm 3 (s.map cSecret)), (1, .clo 234 [.iptr 1 [[.i .i64 f]] 0 0]), (7, .i .i64 t7), (8, .i .i64 zs)], [])) (evO (fun (zr : Int) => (XE.ret, frm [(4, .i .i64 zr)], [])) (fun (zr : Unit) => (XE.exit 0, frm [], []))) ?_ t8
  intro t8
  simp -dsimp +contextual only [↓evA, evB, evT, tys, encs, Nat.reduceAdd, Nat.reduceMul, Nat.reduceBEq, Nat.reduceLeDiff, Nat.reduceLT, TP, orc_p, orc_l, e_impl_secretOf_1]
  try simp only [slices_IndexFunc_Secret_cimpl_secretOf_1_l2, evT, encs, c_js, r_map_some, e_need_t]
  all_goals rfl
theorem e_slices_IndexFunc_Secret_cimpl_secretOf_1 (n : Nat) {R1} {s : List Secret} (c : Int) [H1 : EncL cSecret R1 s] : CP T (n + 3) 233 [.imm 3 R1, .clo 234 [.iptr 1 [[.i .i64 c]] 0 0]] = (slices_IndexFunc_Secret_cimpl_secretOf_1 s c).map fun r => .i .i64 r := by
  obtain ⟨rfl⟩ := H1
  rw [CP_eq]
  simp -dsimp +contextual only [↓evA, evB, evT, tys, encs, Nat.reduceAdd, Nat.reduceMul, Nat.reduceBEq, Nat.reduceLeDiff, Nat.reduceLT, Tryz.func233, Tryz.f233, a233, TP, orc_p, orc_l, e_slices_IndexFunc_Secret_cimpl_secretOf_1_l2]
  try simp only [slices_IndexFunc_Secret_cimpl_secretOf_1, evT, encs, c_js, r_map_some, e_need_t]
  all_goals rfl
theorem e_impl_secretOf (n : Nat) {R1} {l : List Secret} (thing : Int) [H1 : EncL cSecret R1 l] : CP T (n + 4) 187 [.imm 3 R1, .i .i64 thing] = (impl_secretOf l thing).map fun r => .i .i64 r := by
  obtain ⟨rfl⟩ := H1
  rw [CP_eq]
  simp -dsimp +contextual only [↓evA, evB, evT, tys, encs, Nat.reduceAdd, Nat.reduceMul, Nat.reduceBEq, Nat.reduceLeDiff, Nat.reduceLT, Tryz.func187, Tryz.f187, a187, TP, orc_p, orc_l, e_slices_IndexFunc_Secret_cimpl_secretOf_1]
  try simp only [impl_secretOf, evT, encs, c_js, r_map_some, e_need_t]
  all_goals rfl
theorem e_slices_Clone_Mark (n : Nat) {R1} {s : List Mark} [H1 : EncL cMark R1 s] : CP T (n + 1) 188 [.imm 2 R1] = (slices_Clone_Mark s).map fun r => .own 2 (r.map cMark) := by
  obtain ⟨rfl⟩ := H1
  rw [CP_eq]
  simp -dsimp +contextual only [↓evA, evB, evT, tys, encs, Nat.reduceAdd, Nat.reduceMul, Nat.reduceBEq, Nat.reduceLeDiff, Nat.reduceLT, Tryz.func188, Tryz.f188, a188, TP, orc_p, orc_l]
  try simp only [slices_Clone_Mark, evT, encs, c_js, r_map_some, e_need_t]
  all_goals rfl
theorem e_impl_MarksOf (n : Nat) {R1} {l : List Secret} (thing : Int) [H1 : EncL cSecret R1 l] : CP T (n + 5) 90 [.imm 3 R1, .i .i64 thing] = (impl_MarksOf l thing).map fun r => .own 2 (r.map cMark) := by
  obtain ⟨rfl⟩ := H1
  rw [CP_eq]
  simp -dsimp +contextual only [↓evA, evB, evT, tys, encs, Nat.reduceAdd, Nat.reduceMul, Nat.reduceBEq, Nat.reduceLeDiff, Nat.reduceLT, Tryz.func90, Tryz.f90, a90, TP, orc_p, orc_l, e_impl_secretOf, e_slices_Clone_Mark]
  try simp only [impl_MarksOf, evT, encs, c_js, r_map_some, e_need_t]
  all_goals rfl
theorem e_impl_NeedFor (n : Nat) {R1} {l : List Mark} [H1 : EncL cMark R1 l] : CP T (n + 1) 193 [.imm 2 R1] = (impl_NeedFor l).map fun r => .i .i64 r := by
  obtain ⟨rfl⟩ := H1
  rw [CP_eq]
  simp -dsimp +contextual only [↓evA, evB, evT, tys, encs, Nat.reduceAdd, Nat.reduceMul, Nat.reduceBEq, Nat.reduceLeDiff, Nat.reduceLT, Tryz.func193, Tryz.f193, a193, TP, orc_p, orc_l]
  try simp only [impl_NeedFor, evT, encs, c_js, r_map_some, e_need_t]
  all_goals rfl
theorem e_impl_TrialState (n : Nat) {R1} {l : List Mark} (xxClaim : Int) (xxAsked : Int) (xxRight : Int) (xxWrong : Int) [H1 : EncL cMark R1 l] : CP T (n + 4) 92 [.imm 2 R1, .agg [.i .i64 xxClaim, .i .i64 xxAsked, .i .i64 xxRight, .i .i64 xxWrong]] = (impl_TrialState l (⟨xxClaim, xxAsked, xxRight, xxWrong⟩ : Trial)).map fun r => .i .i64 r := by
  obtain ⟨rfl⟩ := H1
  rw [CP_eq]
  simp -dsimp +contextual only [↓evA, evB, evT, tys, encs, Nat.reduceAdd, Nat.reduceMul, Nat.reduceBEq, Nat.reduceLeDiff, Nat.reduceLT, Tryz.func92, Tryz.f92, a92, TP, orc_p, orc_l, e_impl_IsTrial, e_impl_AreMarks, e_impl_NeedFor]
  try simp only [impl_TrialState, evT, encs, c_js, r_map_some, e_need_t]
  all_goals rfl
theorem e_impl_wanted (n : Nat) (state : Int) : CP T (n + 1) 220 [.i .i64 state] = (impl_wanted state).map fun r => .i .i64 r := by
  rw [CP_eq]
  simp -dsimp +contextual only [↓evA, evB, evT, tys, encs, Nat.reduceAdd, Nat.reduceMul, Nat.reduceBEq, Nat.reduceLeDiff, Nat.reduceLT, Tryz.func220, Tryz.f220, a220, TP, orc_p, orc_l]
  try simp only [impl_wanted, evT, encs, c_js, r_map_some, e_need_t]
  all_goals rfl
theorem e_impl_areTrials_l4 (n : Nat) (vhxNo : Int) {R1} {vhxFinds : List Find} {R2} {vhxSecrets : List Secret} {R3} {vhxSlots : List Slot} {R4} {vhxClaims : List Claim} {R5} {vhxTrials : List Trial} {R6} {vhxChain : List Hand} {R7} {vhxBook : List Entry} (vhxNow : Int) {R8} {t14 : List Claim} (t15 : Int) (t16 : Int) [H1 : EncL cFind R1 vhxFinds] [H2 : EncL cSecret R2 vhxSecrets] [H3 : EncL cSlot R3 vhxSlots] [H4 : EncL cClaim R4 vhxClaims] [H5 : EncL cTrial R5 vhxTrials] [H6 : EncL cHand R6 vhxChain] [H7 : EncL cEntry R7 vhxBook] [H8 : EncL cClaim R8 t14] : LP T (n + 6) 152 4 (frm [(1, .ptr 0 0 0), (14, .imm 5 R8), (15, .i .i64 t15), (16, .i .i64 t16)]) [some (Ent.box [.i .i64 vhxNo, .imm 8 R1, .imm 3 R2, .imm 3 R3, .imm 5 R4, .imm 4 R5, .imm 5 R6, .imm 4 R7, .i .i64 vhxNow])] =
    lmap (run (impl_areTrials_l4 (⟨vhxNo, vhxFinds, vhxSecrets, vhxSlots, vhxClaims, vhxTrials, vhxChain, vhxBook, vhxNow⟩ : House) t14 t15) t16) (fun (zr : Bool) => (XE.ret, frm [(2, .b zr)], [])) (fun (zr : Unit) => (XE.exit 0, frm [], [])) := by
  obtain ⟨rfl⟩ := H1
  obtain ⟨rfl⟩ := H2
  obtain ⟨rfl⟩ := H3
  obtain ⟨rfl⟩ := H4
  obtain ⟨rfl⟩ := H5
  obtain ⟨rfl⟩ := H6
  obtain ⟨rfl⟩ := H7
  obtain ⟨rfl⟩ := H8
  rw [LP_eq]
  simp -dsimp only [↓evA, evB, lpG_eq, Tryz.func152, Tryz.f152, a152, TP, Nat.reduceAdd, Nat.reduceMul, Nat.reduceBEq, Nat.reduceLeDiff, Nat.reduceLT]
  refine run_map (fun (zs : Int) => (frm [(1, .ptr 0 0 0), (14, .imm 5 (t14.map cClaim)), (15, .i .i64 t15), (16, .i .i64 zs)], [some (Ent.box [.i .i64 (⟨vhxNo, vhxFinds, vhxSecrets, vhxSlots, vhxClaims, vhxTrials, vhxChain, vhxBook, vhxNow⟩ : House).No, .imm 8 ((⟨vhxNo, vhxFinds, vhxSecrets, vhxSlots, vhxClaims, vhxTrials, vhxChain, vhxBook, vhxNow⟩ : House).Finds.map cFind), .imm 3 ((⟨vhxNo, vhxFinds, vhxSecrets, vhxSlots, vhxClaims, vhxTrials, vhxChain, vhxBook, vhxNow⟩ : House).Secrets.map cSecret), .imm 3 ((⟨vhxNo, vhxFinds, vhxSecrets, vhxSlots, vhxClaims, vhxTrials, vhxChain, vhxBook, vhxNow⟩ : House).Slots.map cSlot), .imm 5 ((⟨vhxNo, vhxFinds, vhxSecrets, vhxSlots, vhxClaims, vhxTrials, vhxChain, vhxBook, vhxNow⟩ : House).Claims.map cClaim), .imm 4 ((⟨vhxNo, vhxFinds, vhxSecrets, vhxSlots, vhxClaims, vhxTrials, vhxChain, vhxBook, vhxNow⟩ : House).Trials.map cTrial), .imm 5 ((⟨vhxNo, vhxFinds, vhxSecrets, vhxSlots, vhxClaims, vhxTrials, vhxChain, vhxBook, vhxNow⟩ : House).Chain.map cHand), .imm 4 ((⟨vhxNo, vhxFinds, vhxSecrets, vhxSlots, vhxClaims, vhxTrials, vhxChain, vhxBook, vhxNow⟩ : House).Book.map cEntry), .i .i64 (⟨vhxNo, vhxFinds, vhxSecrets, vhxSlots, vhxClaims, vhxTrials, vhxChain, vhxBook, vhxNow⟩ : House).Now])])) (evO (fun (zr : Bool) => (XE.ret, frm [(2, .b zr)], [])) (fun (zr : Unit) => (XE.exit 0, frm [], []))) ?_ t16
  intro t16
  simp -dsimp +contextual only [↓evA, evB, evT, tys, encs, Nat.reduceAdd, Nat.reduceMul, Nat.reduceBEq, Nat.reduceLeDiff, Nat.reduceLT, TP, orc_p, orc_l, e_impl_FindThing, e_impl_IsTrial, e_impl_MarksOf, e_impl_TrialState, e_impl_wanted]
  try simp only [impl_areTrials_l4, evT, encs, c_js, r_map_some, e_need_t]
  all_goals rfl
theorem e_impl_areTrials (n : Nat) (vhxNo : Int) {R1} {vhxFinds : List Find} {R2} {vhxSecrets : List Secret} {R3} {vhxSlots : List Slot} {R4} {vhxClaims : List Claim} {R5} {vhxTrials : List Trial} {R6} {vhxChain : List Hand} {R7} {vhxBook : List Entry} (vhxNow : Int) [H1 : EncL cFind R1 vhxFinds] [H2 : EncL cSecret R2 vhxSecrets] [H3 : EncL cSlot R3 vhxSlots] [H4 : EncL cClaim R4 vhxClaims] [H5 : EncL cTrial R5 vhxTrials] [H6 : EncL cHand R6 vhxChain] [H7 : EncL cEntry R7 vhxBook] : CP T (n + 7) 152 [.agg [.i .i64 vhxNo, .imm 8 R1, .imm 3 R2, .imm 3 R3, .imm 5 R4, .imm 4 R5, .imm 5 R6, .imm 4 R7, .i .i64 vhxNow]] = (impl_areTrials (⟨vhxNo, vhxFinds, vhxSecrets, vhxSlots, vhxClaims, vhxTrials, vhxChain, vhxBook, vhxNow⟩ : House)).map fun r => .b r := by
  obtain ⟨rfl⟩ := H1
  obtain ⟨rfl⟩ := H2
  obtain ⟨rfl⟩ := H3
  obtain ⟨rfl⟩ := H4
  obtain ⟨rfl⟩ := H5
  obtain ⟨rfl⟩ := H6
  obtain ⟨rfl⟩ := H7
  rw [CP_eq]
  simp -dsimp +contextual only [↓evA, evB, evT, tys, encs, Nat.reduceAdd, Nat.reduceMul, Nat.reduceBEq, Nat.reduceLeDiff, Nat.reduceLT, Tryz.func152, Tryz.f152, a152, TP, orc_p, orc_l, e_impl_areTrials_l4]
  try simp only [impl_areTrials, evT, encs, c_js, r_map_some, e_need_t]
  all_goals rfl
theorem e_impl_latest_l3 (n : Nat) (vhxNo : Int) {R1} {vhxFinds : List Find} {R2} {vhxSecrets : List Secret} {R3} {vhxSlots : List Slot} {R4} {vhxClaims : List Claim} {R5} {vhxTrials : List Trial} {R6} {vhxChain : List Hand} {R7} {vhxBook : List Entry} (vhxNow : Int) (vat : Int) {R8} {t13 : List Find} (t14 : Int) (t15 : Int) [H1 : EncL cFind R1 vhxFinds] [H2 : EncL cSecret R2 vhxSecrets] [H3 : EncL cSlot R3 vhxSlots] [H4 : EncL cClaim R4 vhxClaims] [H5 : EncL cTrial R5 vhxTrials] [H6 : EncL cHand R6 vhxChain] [H7 : EncL cEntry R7 vhxBook] [H8 : EncL cFind R8 t13] : LP T (n + 1) 153 3 (frm [(1, .ptr 0 0 0), (3, .i .i64 vat), (13, .imm 8 R8), (14, .i .i64 t14), (15, .i .i64 t15)]) [some (Ent.box [.i .i64 vhxNo, .imm 8 R1, .imm 3 R2, .imm 3 R3, .imm 5 R4, .imm 4 R5, .imm 5 R6, .imm 4 R7, .i .i64 vhxNow])] =
    (run (impl_latest_l3 (⟨vhxNo, vhxFinds, vhxSecrets, vhxSlots, vhxClaims, vhxTrials, vhxChain, vhxBook, vhxNow⟩ : House) t13 t14) (vat, t15)).map (fun (zr : Int) => (XE.exit 0, frm [(1, .ptr 0 0 0), (3, .i .i64 zr)], [some (Ent.box [.i .i64 (⟨vhxNo, vhxFinds, vhxSecrets, vhxSlots, vhxClaims, vhxTrials, vhxChain, vhxBook, vhxNow⟩ : House).No, .imm 8 ((⟨vhxNo, vhxFinds, vhxSecrets, vhxSlots, vhxClaims, vhxTrials, vhxChain, vhxBook, vhxNow⟩ : House).Finds.map cFind), .imm 3 ((⟨vhxNo, vhxFinds, vhxSecrets, vhxSlots, vhxClaims, vhxTrials, vhxChain, vhxBook, vhxNow⟩ : House).Secrets.map cSecret), .imm 3 ((⟨vhxNo, vhxFinds, vhxSecrets, vhxSlots, vhxClaims, vhxTrials, vhxChain, vhxBook, vhxNow⟩ : House).Slots.map cSlot), .imm 5 ((⟨vhxNo, vhxFinds, vhxSecrets, vhxSlots, vhxClaims, vhxTrials, vhxChain, vhxBook, vhxNow⟩ : House).Claims.map cClaim), .imm 4 ((⟨vhxNo, vhxFinds, vhxSecrets, vhxSlots, vhxClaims, vhxTrials, vhxChain, vhxBook, vhxNow⟩ : House).Trials.map cTrial), .imm 5 ((⟨vhxNo, vhxFinds, vhxSecrets, vhxSlots, vhxClaims, vhxTrials, vhxChain, vhxBook, vhxNow⟩ : House).Chain.map cHand), .imm 4 ((⟨vhxNo, vhxFinds, vhxSecrets, vhxSlots, vhxClaims, vhxTrials, vhxChain, vhxBook, vhxNow⟩ : House).Book.map cEntry), .i .i64 (⟨vhxNo, vhxFinds, vhxSecrets, vhxSlots, vhxClaims, vhxTrials, vhxChain, vhxBook, vhxNow⟩ : House).Now])])) := by
  obtain ⟨rfl⟩ := H1
  obtain ⟨rfl⟩ := H2
  obtain ⟨rfl⟩ := H3
  obtain ⟨rfl⟩ := H4
  obtain ⟨rfl⟩ := H5
  obtain ⟨rfl⟩ := H6
  obtain ⟨rfl⟩ := H7
  obtain ⟨rfl⟩ := H8
  rw [LP_eq]
  simp -dsimp only [↓evA, evB, lpG_eq, Tryz.func153, Tryz.f153, a153, TP, Nat.reduceAdd, Nat.reduceMul, Nat.reduceBEq, Nat.reduceLeDiff, Nat.reduceLT]
  refine run_map (fun (zs : Int × Int) => (frm [(1, .ptr 0 0 0), (3, .i .i64 zs.1), (13, .imm 8 (t13.map cFind)), (14, .i .i64 t14), (15, .i .i64 zs.2)], [some (Ent.box [.i .i64 (⟨vhxNo, vhxFinds, vhxSecrets, vhxSlots, vhxClaims, vhxTrials, vhxChain, vhxBook, vhxNow⟩ : House).No, .imm 8 ((⟨vhxNo, vhxFinds, vhxSecrets, vhxSlots, vhxClaims, vhxTrials, vhxChain, vhxBook, vhxNow⟩ : House).Finds.map cFind), .imm 3 ((⟨vhxNo, vhxFinds, vhxSecrets, vhxSlots, vhxClaims, vhxTrials, vhxChain, vhxBook, vhxNow⟩ : House).Secrets.map cSecret), .imm 3 ((⟨vhxNo, vhxFinds, vhxSecrets, vhxSlots, vhxClaims, vhxTrials, vhxChain, vhxBook, vhxNow⟩ : House).Slots.map cSlot), .imm 5 ((⟨vhxNo, vhxFinds, vhxSecrets, vhxSlots, vhxClaims, vhxTrials, vhxChain, vhxBook, vhxNow⟩ : House).Claims.map cClaim), .imm 4 ((⟨vhxNo, vhxFinds, vhxSecrets, vhxSlots, vhxClaims, vhxTrials, vhxChain, vhxBook, vhxNow⟩ : House).Trials.map cTrial), .imm 5 ((⟨vhxNo, vhxFinds, vhxSecrets, vhxSlots, vhxClaims, vhxTrials, vhxChain, vhxBook, vhxNow⟩ : House).Chain.map cHand), .imm 4 ((⟨vhxNo, vhxFinds, vhxSecrets, vhxSlots, vhxClaims, vhxTrials, vhxChain, vhxBook, vhxNow⟩ : House).Book.map cEntry), .i .i64 (⟨vhxNo, vhxFinds, vhxSecrets, vhxSlots, vhxClaims, vhxTrials, vhxChain, vhxBook, vhxNow⟩ : House).Now])])) (fun (zr : Int) => (XE.exit 0, frm [(1, .ptr 0 0 0), (3, .i .i64 zr)], [some (Ent.box [.i .i64 (⟨vhxNo, vhxFinds, vhxSecrets, vhxSlots, vhxClaims, vhxTrials, vhxChain, vhxBook, vhxNow⟩ : House).No, .imm 8 ((⟨vhxNo, vhxFinds, vhxSecrets, vhxSlots, vhxClaims, vhxTrials, vhxChain, vhxBook, vhxNow⟩ : House).Finds.map cFind), .imm 3 ((⟨vhxNo, vhxFinds, vhxSecrets, vhxSlots, vhxClaims, vhxTrials, vhxChain, vhxBook, vhxNow⟩ : House).Secrets.map cSecret), .imm 3 ((⟨vhxNo, vhxFinds, vhxSecrets, vhxSlots, vhxClaims, vhxTrials, vhxChain, vhxBook, vhxNow⟩ : House).Slots.map cSlot), .imm 5 ((⟨vhxNo, vhxFinds, vhxSecrets, vhxSlots, vhxClaims, vhxTrials, vhxChain, vhxBook, vhxNow⟩ : House).Claims.map cClaim), .imm 4 ((⟨vhxNo, vhxFinds, vhxSecrets, vhxSlots, vhxClaims, vhxTrials, vhxChain, vhxBook, vhxNow⟩ : House).Trials.map cTrial), .imm 5 ((⟨vhxNo, vhxFinds, vhxSecrets, vhxSlots, vhxClaims, vhxTrials, vhxChain, vhxBook, vhxNow⟩ : House).Chain.map cHand), .imm 4 ((⟨vhxNo, vhxFinds, vhxSecrets, vhxSlots, vhxClaims, vhxTrials, vhxChain, vhxBook, vhxNow⟩ : House).Book.map cEntry), .i .i64 (⟨vhxNo, vhxFinds, vhxSecrets, vhxSlots, vhxClaims, vhxTrials, vhxChain, vhxBook, vhxNow⟩ : House).Now])])) ?_ (vat, t15)
  rintro ⟨vat, t15⟩
  simp -dsimp +contextual only [↓evA, evB, evT, tys, encs, Nat.reduceAdd, Nat.reduceMul, Nat.reduceBEq, Nat.reduceLeDiff, Nat.reduceLT, TP, orc_p, orc_l]
  try simp only [impl_latest_l3, evT, encs, c_js, r_map_some, e_need_t]
  all_goals rfl
theorem e_impl_latest_l8 (n : Nat) (vhxNo : Int) {R1} {vhxFinds : List Find} {R2} {vhxSecrets : List Secret} {R3} {vhxSlots : List Slot} {R4} {vhxClaims : List Claim} {R5} {vhxTrials : List Trial} {R6} {vhxChain : List Hand} {R7} {vhxBook : List Entry} (vhxNow : Int) (vat : Int) {R8} {t25 : List Claim} (t26 : Int) (t27 : Int) [H1 : EncL cFind R1 vhxFinds] [H2 : EncL cSecret R2 vhxSecrets] [H3 : EncL cSlot R3 vhxSlots] [H4 : EncL cClaim R4 vhxClaims] [H5 : EncL cTrial R5 vhxTrials] [H6 : EncL cHand R6 vhxChain] [H7 : EncL cEntry R7 vhxBook] [H8 : EncL cClaim R8 t25] : LP T (n + 1) 153 8 (frm [(1, .ptr 0 0 0), (3, .i .i64 vat), (25, .imm 5 R8), (26, .i .i64 t26), (27, .i .i64 t27)]) [some (Ent.box [.i .i64 vhxNo, .imm 8 R1, .imm 3 R2, .imm 3 R3, .imm 5 R4, .imm 4 R5, .imm 5 R6, .imm 4 R7, .i .i64 vhxNow])] =
    (run (impl_latest_l8 (⟨vhxNo, vhxFinds, vhxSecrets, vhxSlots, vhxClaims, vhxTrials, vhxChain, vhxBook, vhxNow⟩ : House) t25 t26) (vat, t27)).map (fun (zr : Int) => (XE.exit 2, frm [(1, .ptr 0 0 0), (3, .i .i64 zr)], [some (Ent.box [.i .i64 (⟨vhxNo, vhxFinds, vhxSecrets, vhxSlots, vhxClaims, vhxTrials, vhxChain, vhxBook, vhxNow⟩ : House).No, .imm 8 ((⟨vhxNo, vhxFinds, vhxSecrets, vhxSlots, vhxClaims, vhxTrials, vhxChain, vhxBook, vhxNow⟩ : House).Finds.map cFind), .imm 3 ((⟨vhxNo, vhxFinds, vhxSecrets, vhxSlots, vhxClaims, vhxTrials, vhxChain, vhxBook, vhxNow⟩ : House).Secrets.map cSecret), .imm 3 ((⟨vhxNo, vhxFinds, vhxSecrets, vhxSlots, vhxClaims, vhxTrials, vhxChain, vhxBook, vhxNow⟩ : House).Slots.map cSlot), .imm 5 ((⟨vhxNo, vhxFinds, vhxSecrets, vhxSlots, vhxClaims, vhxTrials, vhxChain, vhxBook, vhxNow⟩ : House).Claims.map cClaim), .imm 4 ((⟨vhxNo, vhxFinds, vhxSecrets, vhxSlots, vhxClaims, vhxTrials, vhxChain, vhxBook, vhxNow⟩ : House).Trials.map cTrial), .imm 5 ((⟨vhxNo, vhxFinds, vhxSecrets, vhxSlots, vhxClaims, vhxTrials, vhxChain, vhxBook, vhxNow⟩ : House).Chain.map cHand), .imm 4 ((⟨vhxNo, vhxFinds, vhxSecrets, vhxSlots, vhxClaims, vhxTrials, vhxChain, vhxBook, vhxNow⟩ : House).Book.map cEntry), .i .i64 (⟨vhxNo, vhxFinds, vhxSecrets, vhxSlots, vhxClaims, vhxTrials, vhxChain, vhxBook, vhxNow⟩ : House).Now])])) := by
  obtain ⟨rfl⟩ := H1
  obtain ⟨rfl⟩ := H2
  obtain ⟨rfl⟩ := H3
  obtain ⟨rfl⟩ := H4
  obtain ⟨rfl⟩ := H5
  obtain ⟨rfl⟩ := H6
  obtain ⟨rfl⟩ := H7
  obtain ⟨rfl⟩ := H8
  rw [LP_eq]
  simp -dsimp only [↓evA, evB, lpG_eq, Tryz.func153, Tryz.f153, a153, TP, Nat.reduceAdd, Nat.reduceMul, Nat.reduceBEq, Nat.reduceLeDiff, Nat.reduceLT]
  refine run_map (fun (zs : Int × Int) => (frm [(1, .ptr 0 0 0), (3, .i .i64 zs.1), (25, .imm 5 (t25.map cClaim)), (26, .i .i64 t26), (27, .i .i64 zs.2)], [some (Ent.box [.i .i64 (⟨vhxNo, vhxFinds, vhxSecrets, vhxSlots, vhxClaims, vhxTrials, vhxChain, vhxBook, vhxNow⟩ : House).No, .imm 8 ((⟨vhxNo, vhxFinds, vhxSecrets, vhxSlots, vhxClaims, vhxTrials, vhxChain, vhxBook, vhxNow⟩ : House).Finds.map cFind), .imm 3 ((⟨vhxNo, vhxFinds, vhxSecrets, vhxSlots, vhxClaims, vhxTrials, vhxChain, vhxBook, vhxNow⟩ : House).Secrets.map cSecret), .imm 3 ((⟨vhxNo, vhxFinds, vhxSecrets, vhxSlots, vhxClaims, vhxTrials, vhxChain, vhxBook, vhxNow⟩ : House).Slots.map cSlot), .imm 5 ((⟨vhxNo, vhxFinds, vhxSecrets, vhxSlots, vhxClaims, vhxTrials, vhxChain, vhxBook, vhxNow⟩ : House).Claims.map cClaim), .imm 4 ((⟨vhxNo, vhxFinds, vhxSecrets, vhxSlots, vhxClaims, vhxTrials, vhxChain, vhxBook, vhxNow⟩ : House).Trials.map cTrial), .imm 5 ((⟨vhxNo, vhxFinds, vhxSecrets, vhxSlots, vhxClaims, vhxTrials, vhxChain, vhxBook, vhxNow⟩ : House).Chain.map cHand), .imm 4 ((⟨vhxNo, vhxFinds, vhxSecrets, vhxSlots, vhxClaims, vhxTrials, vhxChain, vhxBook, vhxNow⟩ : House).Book.map cEntry), .i .i64 (⟨vhxNo, vhxFinds, vhxSecrets, vhxSlots, vhxClaims, vhxTrials, vhxChain, vhxBook, vhxNow⟩ : House).Now])])) (fun (zr : Int) => (XE.exit 2, frm [(1, .ptr 0 0 0), (3, .i .i64 zr)], [some (Ent.box [.i .i64 (⟨vhxNo, vhxFinds, vhxSecrets, vhxSlots, vhxClaims, vhxTrials, vhxChain, vhxBook, vhxNow⟩ : House).No, .imm 8 ((⟨vhxNo, vhxFinds, vhxSecrets, vhxSlots, vhxClaims, vhxTrials, vhxChain, vhxBook, vhxNow⟩ : House).Finds.map cFind), .imm 3 ((⟨vhxNo, vhxFinds, vhxSecrets, vhxSlots, vhxClaims, vhxTrials, vhxChain, vhxBook, vhxNow⟩ : House).Secrets.map cSecret), .imm 3 ((⟨vhxNo, vhxFinds, vhxSecrets, vhxSlots, vhxClaims, vhxTrials, vhxChain, vhxBook, vhxNow⟩ : House).Slots.map cSlot), .imm 5 ((⟨vhxNo, vhxFinds, vhxSecrets, vhxSlots, vhxClaims, vhxTrials, vhxChain, vhxBook, vhxNow⟩ : House).Claims.map cClaim), .imm 4 ((⟨vhxNo, vhxFinds, vhxSecrets, vhxSlots, vhxClaims, vhxTrials, vhxChain, vhxBook, vhxNow⟩ : House).Trials.map cTrial), .imm 5 ((⟨vhxNo, vhxFinds, vhxSecrets, vhxSlots, vhxClaims, vhxTrials, vhxChain, vhxBook, vhxNow⟩ : House).Chain.map cHand), .imm 4 ((⟨vhxNo, vhxFinds, vhxSecrets, vhxSlots, vhxClaims, vhxTrials, vhxChain, vhxBook, vhxNow⟩ : House).Book.map cEntry), .i .i64 (⟨vhxNo, vhxFinds, vhxSecrets, vhxSlots, vhxClaims, vhxTrials, vhxChain, vhxBook, vhxNow⟩ : House).Now])])) ?_ (vat, t27)
  rintro ⟨vat, t27⟩
  simp -dsimp +contextual only [↓evA, evB, evT, tys, encs, Nat.reduceAdd, Nat.reduceMul, Nat.reduceBEq, Nat.reduceLeDiff, Nat.reduceLT, TP, orc_p, orc_l]
  try simp only [impl_latest_l8, evT, encs, c_js, r_map_some, e_need_t]
  all_goals rfl
theorem e_impl_latest_l13 (n : Nat) (vhxNo : Int) {R1} {vhxFinds : List Find} {R2} {vhxSecrets : List Secret} {R3} {vhxSlots : List Slot} {R4} {vhxClaims : List Claim} {R5} {vhxTrials : List Trial} {R6} {vhxChain : List Hand} {R7} {vhxBook : List Entry} (vhxNow : Int) (vat : Int) {R8} {t37 : List Hand} (t38 : Int) (t39 : Int) [H1 : EncL cFind R1 vhxFinds] [H2 : EncL cSecret R2 vhxSecrets] [H3 : EncL cSlot R3 vhxSlots] [H4 : EncL cClaim R4 vhxClaims] [H5 : EncL cTrial R5 vhxTrials] [H6 : EncL cHand R6 vhxChain] [H7 : EncL cEntry R7 vhxBook] [H8 : EncL cHand R8 t37] : LP T (n + 1) 153 13 (frm [(1, .ptr 0 0 0), (3, .i .i64 vat), (37, .imm 5 R8), (38, .i .i64 t38), (39, .i .i64 t39)]) [some (Ent.box [.i .i64 vhxNo, .imm 8 R1, .imm 3 R2, .imm 3 R3, .imm 5 R4, .imm 4 R5, .imm 5 R6, .imm 4 R7, .i .i64 vhxNow])] =
    (run (impl_latest_l13 (⟨vhxNo, vhxFinds, vhxSecrets, vhxSlots, vhxClaims, vhxTrials, vhxChain, vhxBook, vhxNow⟩ : House) t37 t38) (vat, t39)).map (fun (zr : Int) => (XE.exit 4, frm [(1, .ptr 0 0 0), (3, .i .i64 zr)], [some (Ent.box [.i .i64 (⟨vhxNo, vhxFinds, vhxSecrets, vhxSlots, vhxClaims, vhxTrials, vhxChain, vhxBook, vhxNow⟩ : House).No, .imm 8 ((⟨vhxNo, vhxFinds, vhxSecrets, vhxSlots, vhxClaims, vhxTrials, vhxChain, vhxBook, vhxNow⟩ : House).Finds.map cFind), .imm 3 ((⟨vhxNo, vhxFinds, vhxSecrets, vhxSlots, vhxClaims, vhxTrials, vhxChain, vhxBook, vhxNow⟩ : House).Secrets.map cSecret), .imm 3 ((⟨vhxNo, vhxFinds, vhxSecrets, vhxSlots, vhxClaims, vhxTrials, vhxChain, vhxBook, vhxNow⟩ : House).Slots.map cSlot), .imm 5 ((⟨vhxNo, vhxFinds, vhxSecrets, vhxSlots, vhxClaims, vhxTrials, vhxChain, vhxBook, vhxNow⟩ : House).Claims.map cClaim), .imm 4 ((⟨vhxNo, vhxFinds, vhxSecrets, vhxSlots, vhxClaims, vhxTrials, vhxChain, vhxBook, vhxNow⟩ : House).Trials.map cTrial), .imm 5 ((⟨vhxNo, vhxFinds, vhxSecrets, vhxSlots, vhxClaims, vhxTrials, vhxChain, vhxBook, vhxNow⟩ : House).Chain.map cHand), .imm 4 ((⟨vhxNo, vhxFinds, vhxSecrets, vhxSlots, vhxClaims, vhxTrials, vhxChain, vhxBook, vhxNow⟩ : House).Book.map cEntry), .i .i64 (⟨vhxNo, vhxFinds, vhxSecrets, vhxSlots, vhxClaims, vhxTrials, vhxChain, vhxBook, vhxNow⟩ : House).Now])])) := by
  obtain ⟨rfl⟩ := H1
  obtain ⟨rfl⟩ := H2
  obtain ⟨rfl⟩ := H3
  obtain ⟨rfl⟩ := H4
  obtain ⟨rfl⟩ := H5
  obtain ⟨rfl⟩ := H6
  obtain ⟨rfl⟩ := H7
  obtain ⟨rfl⟩ := H8
  rw [LP_eq]
  simp -dsimp only [↓evA, evB, lpG_eq, Tryz.func153, Tryz.f153, a153, TP, Nat.reduceAdd, Nat.reduceMul, Nat.reduceBEq, Nat.reduceLeDiff, Nat.reduceLT]
  refine run_map (fun (zs : Int × Int) => (frm [(1, .ptr 0 0 0), (3, .i .i64 zs.1), (37, .imm 5 (t37.map cHand)), (38, .i .i64 t38), (39, .i .i64 zs.2)], [some (Ent.box [.i .i64 (⟨vhxNo, vhxFinds, vhxSecrets, vhxSlots, vhxClaims, vhxTrials, vhxChain, vhxBook, vhxNow⟩ : House).No, .imm 8 ((⟨vhxNo, vhxFinds, vhxSecrets, vhxSlots, vhxClaims, vhxTrials, vhxChain, vhxBook, vhxNow⟩ : House).Finds.map cFind), .imm 3 ((⟨vhxNo, vhxFinds, vhxSecrets, vhxSlots, vhxClaims, vhxTrials, vhxChain, vhxBook, vhxNow⟩ : House).Secrets.map cSecret), .imm 3 ((⟨vhxNo, vhxFinds, vhxSecrets, vhxSlots, vhxClaims, vhxTrials, vhxChain, vhxBook, vhxNow⟩ : House).Slots.map cSlot), .imm 5 ((⟨vhxNo, vhxFinds, vhxSecrets, vhxSlots, vhxClaims, vhxTrials, vhxChain, vhxBook, vhxNow⟩ : House).Claims.map cClaim), .imm 4 ((⟨vhxNo, vhxFinds, vhxSecrets, vhxSlots, vhxClaims, vhxTrials, vhxChain, vhxBook, vhxNow⟩ : House).Trials.map cTrial), .imm 5 ((⟨vhxNo, vhxFinds, vhxSecrets, vhxSlots, vhxClaims, vhxTrials, vhxChain, vhxBook, vhxNow⟩ : House).Chain.map cHand), .imm 4 ((⟨vhxNo, vhxFinds, vhxSecrets, vhxSlots, vhxClaims, vhxTrials, vhxChain, vhxBook, vhxNow⟩ : House).Book.map cEntry), .i .i64 (⟨vhxNo, vhxFinds, vhxSecrets, vhxSlots, vhxClaims, vhxTrials, vhxChain, vhxBook, vhxNow⟩ : House).Now])])) (fun (zr : Int) => (XE.exit 4, frm [(1, .ptr 0 0 0), (3, .i .i64 zr)], [some (Ent.box [.i .i64 (⟨vhxNo, vhxFinds, vhxSecrets, vhxSlots, vhxClaims, vhxTrials, vhxChain, vhxBook, vhxNow⟩ : House).No, .imm 8 ((⟨vhxNo, vhxFinds, vhxSecrets, vhxSlots, vhxClaims, vhxTrials, vhxChain, vhxBook, vhxNow⟩ : House).Finds.map cFind), .imm 3 ((⟨vhxNo, vhxFinds, vhxSecrets, vhxSlots, vhxClaims, vhxTrials, vhxChain, vhxBook, vhxNow⟩ : House).Secrets.map cSecret), .imm 3 ((⟨vhxNo, vhxFinds, vhxSecrets, vhxSlots, vhxClaims, vhxTrials, vhxChain, vhxBook, vhxNow⟩ : House).Slots.map cSlot), .imm 5 ((⟨vhxNo, vhxFinds, vhxSecrets, vhxSlots, vhxClaims, vhxTrials, vhxChain, vhxBook, vhxNow⟩ : House).Claims.map cClaim), .imm 4 ((⟨vhxNo, vhxFinds, vhxSecrets, vhxSlots, vhxClaims, vhxTrials, vhxChain, vhxBook, vhxNow⟩ : House).Trials.map cTrial), .imm 5 ((⟨vhxNo, vhxFinds, vhxSecrets, vhxSlots, vhxClaims, vhxTrials, vhxChain, vhxBook, vhxNow⟩ : House).Chain.map cHand), .imm 4 ((⟨vhxNo, vhxFinds, vhxSecrets, vhxSlots, vhxClaims, vhxTrials, vhxChain, vhxBook, vhxNow⟩ : House).Book.map cEntry), .i .i64 (⟨vhxNo, vhxFinds, vhxSecrets, vhxSlots, vhxClaims, vhxTrials, vhxChain, vhxBook, vhxNow⟩ : House).Now])])) ?_ (vat, t39)
  rintro ⟨vat, t39⟩
  simp -dsimp +contextual only [↓evA, evB, evT, tys, encs, Nat.reduceAdd, Nat.reduceMul, Nat.reduceBEq, Nat.reduceLeDiff, Nat.reduceLT, TP, orc_p, orc_l]
  try simp only [impl_latest_l13, evT, encs, c_js, r_map_some, e_need_t]
  all_goals rfl
theorem e_impl_latest_l18 (n : Nat) (vat : Int) {R1} {t49 : List Entry} (t50 : Int) (t51 : Int) [H1 : EncL cEntry R1 t49] : LP T (n + 1) 153 18 (frm [(3, .i .i64 vat), (49, .imm 4 R1), (50, .i .i64 t50), (51, .i .i64 t51)]) [] =
    (run (impl_latest_l18 t49 t50) (vat, t51)).map (fun (zr : Int) => (XE.exit 6, frm [(3, .i .i64 zr)], [])) := by
  obtain ⟨rfl⟩ := H1
  rw [LP_eq]
  simp -dsimp only [↓evA, evB, lpG_eq, Tryz.func153, Tryz.f153, a153, TP, Nat.reduceAdd, Nat.reduceMul, Nat.reduceBEq, Nat.reduceLeDiff, Nat.reduceLT]
  refine run_map (fun (zs : Int × Int) => (frm [(3, .i .i64 zs.1), (49, .imm 4 (t49.map cEntry)), (50, .i .i64 t50), (51, .i .i64 zs.2)], [])) (fun (zr : Int) => (XE.exit 6, frm [(3, .i .i64 zr)], [])) ?_ (vat, t51)
  rintro ⟨vat, t51⟩
  simp -dsimp +contextual only [↓evA, evB, evT, tys, encs, Nat.reduceAdd, Nat.reduceMul, Nat.reduceBEq, Nat.reduceLeDiff, Nat.reduceLT, TP, orc_p, orc_l]
  try simp only [impl_latest_l18, evT, encs, c_js, r_map_some, e_need_t]
  all_goals rfl
theorem e_impl_latest (n : Nat) (vhxNo : Int) {R1} {vhxFinds : List Find} {R2} {vhxSecrets : List Secret} {R3} {vhxSlots : List Slot} {R4} {vhxClaims : List Claim} {R5} {vhxTrials : List Trial} {R6} {vhxChain : List Hand} {R7} {vhxBook : List Entry} (vhxNow : Int) [H1 : EncL cFind R1 vhxFinds] [H2 : EncL cSecret R2 vhxSecrets] [H3 : EncL cSlot R3 vhxSlots] [H4 : EncL cClaim R4 vhxClaims] [H5 : EncL cTrial R5 vhxTrials] [H6 : EncL cHand R6 vhxChain] [H7 : EncL cEntry R7 vhxBook] : CP T (n + 2) 153 [.agg [.i .i64 vhxNo, .imm 8 R1, .imm 3 R2, .imm 3 R3, .imm 5 R4, .imm 4 R5, .imm 5 R6, .imm 4 R7, .i .i64 vhxNow]] = (impl_latest (⟨vhxNo, vhxFinds, vhxSecrets, vhxSlots, vhxClaims, vhxTrials, vhxChain, vhxBook, vhxNow⟩ : House)).map fun r => .i .i64 r := by
  obtain ⟨rfl⟩ := H1
  obtain ⟨rfl⟩ := H2
  obtain ⟨rfl⟩ := H3
  obtain ⟨rfl⟩ := H4
  obtain ⟨rfl⟩ := H5
  obtain ⟨rfl⟩ := H6
  obtain ⟨rfl⟩ := H7
  rw [CP_eq]
  simp -dsimp +contextual only [↓evA, evB, evT, tys, encs, Nat.reduceAdd, Nat.reduceMul, Nat.reduceBEq, Nat.reduceLeDiff, Nat.reduceLT, Tryz.func153, Tryz.f153, a153, TP, orc_p, orc_l, e_impl_latest_l3, e_impl_latest_l8, e_impl_latest_l13, e_impl_latest_l18]
  try simp only [impl_latest, evT, encs, c_js, r_map_some, e_need_t]
  all_goals rfl
theorem e_impl_IsHouse (n : Nat) (vhxNo : Int) {R1} {vhxFinds : List Find} {R2} {vhxSecrets : List Secret} {R3} {vhxSlots : List Slot} {R4} {vhxClaims : List Claim} {R5} {vhxTrials : List Trial} {R6} {vhxChain : List Hand} {R7} {vhxBook : List Entry} (vhxNow : Int) [H1 : EncL cFind R1 vhxFinds] [H2 : EncL cSecret R2 vhxSecrets] [H3 : EncL cSlot R3 vhxSlots] [H4 : EncL cClaim R4 vhxClaims] [H5 : EncL cTrial R5 vhxTrials] [H6 : EncL cHand R6 vhxChain] [H7 : EncL cEntry R7 vhxBook] : CP T (n + 11) 53 [.agg [.i .i64 vhxNo, .imm 8 R1, .imm 3 R2, .imm 3 R3, .imm 5 R4, .imm 4 R5, .imm 5 R6, .imm 4 R7, .i .i64 vhxNow]] = (impl_IsHouse (⟨vhxNo, vhxFinds, vhxSecrets, vhxSlots, vhxClaims, vhxTrials, vhxChain, vhxBook, vhxNow⟩ : House)).map fun r => .b r := by
  obtain ⟨rfl⟩ := H1
  obtain ⟨rfl⟩ := H2
  obtain ⟨rfl⟩ := H3
  obtain ⟨rfl⟩ := H4
  obtain ⟨rfl⟩ := H5
  obtain ⟨rfl⟩ := H6
  obtain ⟨rfl⟩ := H7
  rw [CP_eq]
  simp -dsimp +contextual only [↓evA, evB, evT, tys, encs, Nat.reduceAdd, Nat.reduceMul, Nat.reduceBEq, Nat.reduceLeDiff, Nat.reduceLT, Tryz.func53, Tryz.f53, a53, TP, orc_p, orc_l, e_impl_InRange, e_impl_AreFinds, e_impl_AreSecrets, e_impl_AreSlots, e_impl_AreClaims, e_impl_IsChain, e_impl_AreEntries, e_impl_areKept, e_impl_areTrials, e_impl_latest]
  try simp only [impl_IsHouse, evT, encs, c_js, r_map_some, e_need_t]
  all_goals rfl
theorem e_impl_IsAccounted_l3 (n : Nat) (vhxNo : Int) {R1} {vhxFinds : List Find} {R2} {vhxSecrets : List Secret} {R3} {vhxSlots : List Slot} {R4} {vhxClaims : List Claim} {R5} {vhxTrials : List Trial} {R6} {vhxChain : List Hand} {R7} {vhxBook : List Entry} (vhxNow : Int) {R8} {vin : List Int} {R9} {t13 : List Find} (t14 : Int) (t15 : Int) [H1 : EncL cFind R1 vhxFinds] [H2 : EncL cSecret R2 vhxSecrets] [H3 : EncL cSlot R3 vhxSlots] [H4 : EncL cClaim R4 vhxClaims] [H5 : EncL cTrial R5 vhxTrials] [H6 : EncL cHand R6 vhxChain] [H7 : EncL cEntry R7 vhxBook] [H8 : EncL c_i64 R8 vin] [H9 : EncL cFind R9 t13] : LP T (n + 5) 54 3 (frm [(1, .ptr 0 0 0), (3, .sl 1), (13, .imm 8 R9), (14, .i .i64 t14), (15, .i .i64 t15)]) [some (Ent.box [.i .i64 vhxNo, .imm 8 R1, .imm 3 R2, .imm 3 R3, .imm 5 R4, .imm 4 R5, .imm 5 R6, .imm 4 R7, .i .i64 vhxNow]), some (Ent.lst 1 R8)] =
    lmap (run (impl_IsAccounted_l3 (⟨vhxNo, vhxFinds, vhxSecrets, vhxSlots, vhxClaims, vhxTrials, vhxChain, vhxBook, vhxNow⟩ : House) vin t13 t14) t15) (fun (zr : Bool) => (XE.ret, frm [(2, .b zr)], [])) (fun (zr : Unit) => (XE.exit 0, frm [], [])) := by
  obtain ⟨rfl⟩ := H1
  obtain ⟨rfl⟩ := H2
  obtain ⟨rfl⟩ := H3
  obtain ⟨rfl⟩ := H4
  obtain ⟨rfl⟩ := H5
  obtain ⟨rfl⟩ := H6
  obtain ⟨rfl⟩ := H7
  obtain ⟨rfl⟩ := H8
  obtain ⟨rfl⟩ := H9
  rw [LP_eq]
  simp -dsimp only [↓evA, evB, lpG_eq, Tryz.func54, Tryz.f54, a54, TP, Nat.reduceAdd, Nat.reduceMul, Nat.reduceBEq, Nat.reduceLeDiff, Nat.reduceLT]
  refine run_map (fun (zs : Int) => (frm [(1, .ptr 0 0 0), (3, .sl 1), (13, .imm 8 (t13.map cFind)), (14, .i .i64 t14), (15, .i .i64 zs)], [some (Ent.box [.i .i64 (⟨vhxNo, vhxFinds, vhxSecrets, vhxSlots, vhxClaims, vhxTrials, vhxChain, vhxBook, vhxNow⟩ : House).No, .imm 8 ((⟨vhxNo, vhxFinds, vhxSecrets, vhxSlots, vhxClaims, vhxTrials, vhxChain, vhxBook, vhxNow⟩ : House).Finds.map cFind), .imm 3 ((⟨vhxNo, vhxFinds, vhxSecrets, vhxSlots, vhxClaims, vhxTrials, vhxChain, vhxBook, vhxNow⟩ : House).Secrets.map cSecret), .imm 3 ((⟨vhxNo, vhxFinds, vhxSecrets, vhxSlots, vhxClaims, vhxTrials, vhxChain, vhxBook, vhxNow⟩ : House).Slots.map cSlot), .imm 5 ((⟨vhxNo, vhxFinds, vhxSecrets, vhxSlots, vhxClaims, vhxTrials, vhxChain, vhxBook, vhxNow⟩ : House).Claims.map cClaim), .imm 4 ((⟨vhxNo, vhxFinds, vhxSecrets, vhxSlots, vhxClaims, vhxTrials, vhxChain, vhxBook, vhxNow⟩ : House).Trials.map cTrial), .imm 5 ((⟨vhxNo, vhxFinds, vhxSecrets, vhxSlots, vhxClaims, vhxTrials, vhxChain, vhxBook, vhxNow⟩ : House).Chain.map cHand), .imm 4 ((⟨vhxNo, vhxFinds, vhxSecrets, vhxSlots, vhxClaims, vhxTrials, vhxChain, vhxBook, vhxNow⟩ : House).Book.map cEntry), .i .i64 (⟨vhxNo, vhxFinds, vhxSecrets, vhxSlots, vhxClaims, vhxTrials, vhxChain, vhxBook, vhxNow⟩ : House).Now]), some (Ent.lst 1 (vin.map c_i64))])) (evO (fun (zr : Bool) => (XE.ret, frm [(2, .b zr)], [])) (fun (zr : Unit) => (XE.exit 0, frm [], []))) ?_ t15
  intro t15
  simp -dsimp +contextual only [↓evA, evB, evT, tys, encs, Nat.reduceAdd, Nat.reduceMul, Nat.reduceBEq, Nat.reduceLeDiff, Nat.reduceLT, TP, orc_p, orc_l, e_impl_lastHand, e_impl_slotWith, e_slices_Contains_int]
  try simp only [impl_IsAccounted_l3, evT, encs, c_js, r_map_some, e_need_t]
  all_goals rfl
theorem e_impl_IsAccounted (n : Nat) (vhxNo : Int) {R1} {vhxFinds : List Find} {R2} {vhxSecrets : List Secret} {R3} {vhxSlots : List Slot} {R4} {vhxClaims : List Claim} {R5} {vhxTrials : List Trial} {R6} {vhxChain : List Hand} {R7} {vhxBook : List Entry} (vhxNow : Int) [H1 : EncL cFind R1 vhxFinds] [H2 : EncL cSecret R2 vhxSecrets] [H3 : EncL cSlot R3 vhxSlots] [H4 : EncL cClaim R4 vhxClaims] [H5 : EncL cTrial R5 vhxTrials] [H6 : EncL cHand R6 vhxChain] [H7 : EncL cEntry R7 vhxBook] : CP T (n + 10) 54 [.agg [.i .i64 vhxNo, .imm 8 R1, .imm 3 R2, .imm 3 R3, .imm 5 R4, .imm 4 R5, .imm 5 R6, .imm 4 R7, .i .i64 vhxNow]] = (impl_IsAccounted (⟨vhxNo, vhxFinds, vhxSecrets, vhxSlots, vhxClaims, vhxTrials, vhxChain, vhxBook, vhxNow⟩ : House)).map fun r => .b r := by
  obtain ⟨rfl⟩ := H1
  obtain ⟨rfl⟩ := H2
  obtain ⟨rfl⟩ := H3
  obtain ⟨rfl⟩ := H4
  obtain ⟨rfl⟩ := H5
  obtain ⟨rfl⟩ := H6
  obtain ⟨rfl⟩ := H7
  rw [CP_eq]
  simp -dsimp +contextual only [↓evA, evB, evT, tys, encs, Nat.reduceAdd, Nat.reduceMul, Nat.reduceBEq, Nat.reduceLeDiff, Nat.reduceLT, Tryz.func54, Tryz.f54, a54, TP, orc_p, orc_l, e_impl_InHouse, e_impl_IsAccounted_l3]
  try simp only [impl_IsAccounted, evT, encs, c_js, r_map_some, e_need_t]
  all_goals rfl
theorem e_impl_isServed_1 (n : Nat) (cxId : Int) (cxWho : Int) (cxThing : Int) (cxAt : Int) (cxState : Int) (c2xThing : Int) (c2xHolder : Int) (c2xWho : Int) (c2xAt : Int) (c2xSeal : Int) : CP T (n + 1) 223 [.agg [.i .i64 cxId, .i .i64 cxWho, .i .i64 cxThing, .i .i64 cxAt, .i .i64 cxState], .iptr 5 [[.i .i64 c2xThing, .i .i64 c2xHolder, .i .i64 c2xWho, .i .i64 c2xAt, .i .i64 c2xSeal]] 0 0] = (impl_isServed_1 (⟨cxId, cxWho, cxThing, cxAt, cxState⟩ : Claim) (⟨c2xThing, c2xHolder, c2xWho, c2xAt, c2xSeal⟩ : Hand)).map fun r => .b r := by
  rw [CP_eq]
  simp -dsimp +contextual only [↓evA, evB, evT, tys, encs, Nat.reduceAdd, Nat.reduceMul, Nat.reduceBEq, Nat.reduceLeDiff, Nat.reduceLT, Tryz.func223, Tryz.f223, a223, TP, orc_p, orc_l]
  try simp only [impl_isServed_1, evT, encs, c_js, r_map_some, e_need_t]
  all_goals rfl
theorem e_slices_IndexFunc_Claim_cimpl_isServed_1_l2 (n : Nat) {R1} {s : List Claim} (fxThing : Int) (fxHolder : Int) (fxWho : Int) (fxAt : Int) (fxSeal : Int) (t7 : Int) (t8 : Int) [H1 : EncL cClaim R1 s] : LP T (n + 2) 185 2 (frm [(0, .imm 5 R1), (1, .clo 223 [.iptr 5 [[.i .i64 fxThing, .i .i64 fxHolder, .i .i64 fxWho, .i .i64 fxAt, .i .i64 fxSeal]] 0 0]), (7, .i .i64 t7), (8, .i .i64 t8)]) [] =
    lmap (run (slices_IndexFunc_Claim_cimpl_isServed_1_l2 s (⟨fxThing, fxHolder, fxWho, fxAt, fxSeal⟩ : Hand) t7) t8) (fun (zr : Int) => (XE.ret, frm [(4, .i .i64 zr)], [])) (fun (zr : Unit) => (XE.exit 0, frm [], [])) := by
  obtain ⟨rfl⟩ := H1
  rw [LP_eq]
  simp -dsimp only [↓evA, evB, lpG_eq, Tryz.func185, Tryz.f185, a185, TP, Nat.reduceAdd, Nat.reduceMul, Nat.reduceBEq, Nat.reduceLeDiff, Nat.reduceLT]
  refine run_map (fun (zs : Int) => (frm [(0, .imm 5 (s.map cClaim)), (1, .clo 223 [.iptr 5 [[.i .i64 (⟨fxThing, fxHolder, fxWho, fxAt, fxSeal⟩ : Hand).Thing, .i .i64 (⟨fxThing, fxHolder, fxWho, fxAt, fxSeal⟩ : Hand).Holder, .i .i64 (⟨fxThing, fxHolder, fxWho, fxAt, fxSeal⟩ : Hand).Who, .i .i64 (⟨fxThing, fxHolder, fxWho, fxAt, fxSeal⟩ : Hand).At, .i .i64 (⟨fxThing, fxHolder, fxWho, fxAt, fxSeal⟩ : Hand).Seal]] 0 0]), (7, .i .i64 t7), (8, .i .i64 zs)], [])) (evO (fun (zr : Int) => (XE.ret, frm [(4, .i .i64 zr)], [])) (fun (zr : Unit) => (XE.exit 0, frm [], []))) ?_ t8
  intro t8
  simp -dsimp +contextual only [↓evA, evB, evT, tys, encs, Nat.reduceAdd, Nat.reduceMul, Nat.reduceBEq, Nat.reduceLeDiff, Nat.reduceLT, TP, orc_p, orc_l, e_impl_isServed_1]
  try simp only [slices_IndexFunc_Claim_cimpl_isServed_1_l2, evT, encs, c_js, r_map_some, e_need_t]
  all_goals rfl
theorem e_slices_IndexFunc_Claim_cimpl_isServed_1 (n : Nat) {R1} {s : List Claim} (cxThing : Int) (cxHolder : Int) (cxWho : Int) (cxAt : Int) (cxSeal : Int) [H1 : EncL cClaim R1 s] : CP T (n + 3) 185 [.imm 5 R1, .clo 223 [.iptr 5 [[.i .i64 cxThing, .i .i64 cxHolder, .i .i64 cxWho, .i .i64 cxAt, .i .i64 cxSeal]] 0 0]] = (slices_IndexFunc_Claim_cimpl_isServed_1 s (⟨cxThing, cxHolder, cxWho, cxAt, cxSeal⟩ : Hand)).map fun r => .i .i64 r := by
  obtain ⟨rfl⟩ := H1
  rw [CP_eq]
  simp -dsimp +contextual only [↓evA, evB, evT, tys, encs, Nat.reduceAdd, Nat.reduceMul, Nat.reduceBEq, Nat.reduceLeDiff, Nat.reduceLT, Tryz.func185, Tryz.f185, a185, TP, orc_p, orc_l, e_slices_IndexFunc_Claim_cimpl_isServed_1_l2]
  try simp only [slices_IndexFunc_Claim_cimpl_isServed_1, evT, encs, c_js, r_map_some, e_need_t]
  all_goals rfl
theorem e_slices_ContainsFunc_Claim_cimpl_isServed_1 (n : Nat) {R1} {s : List Claim} (cxThing : Int) (cxHolder : Int) (cxWho : Int) (cxAt : Int) (cxSeal : Int) [H1 : EncL cClaim R1 s] : CP T (n + 4) 194 [.imm 5 R1, .clo 223 [.iptr 5 [[.i .i64 cxThing, .i .i64 cxHolder, .i .i64 cxWho, .i .i64 cxAt, .i .i64 cxSeal]] 0 0]] = (slices_ContainsFunc_Claim_cimpl_isServed_1 s (⟨cxThing, cxHolder, cxWho, cxAt, cxSeal⟩ : Hand)).map fun r => .b r := by
  obtain ⟨rfl⟩ := H1
  rw [CP_eq]
  simp -dsimp +contextual only [↓evA, evB, evT, tys, encs, Nat.reduceAdd, Nat.reduceMul, Nat.reduceBEq, Nat.reduceLeDiff, Nat.reduceLT, Tryz.func194, Tryz.f194, a194, TP, orc_p, orc_l, e_slices_IndexFunc_Claim_cimpl_isServed_1]
  try simp only [slices_ContainsFunc_Claim_cimpl_isServed_1, evT, encs, c_js, r_map_some, e_need_t]
  all_goals rfl
theorem e_impl_isServed (n : Nat) (vhxNo : Int) {R1} {vhxFinds : List Find} {R2} {vhxSecrets : List Secret} {R3} {vhxSlots : List Slot} {R4} {vhxClaims : List Claim} {R5} {vhxTrials : List Trial} {R6} {vhxChain : List Hand} {R7} {vhxBook : List Entry} (vhxNow : Int) (xxThing : Int) (xxHolder : Int) (xxWho : Int) (xxAt : Int) (xxSeal : Int) [H1 : EncL cFind R1 vhxFinds] [H2 : EncL cSecret R2 vhxSecrets] [H3 : EncL cSlot R3 vhxSlots] [H4 : EncL cClaim R4 vhxClaims] [H5 : EncL cTrial R5 vhxTrials] [H6 : EncL cHand R6 vhxChain] [H7 : EncL cEntry R7 vhxBook] : CP T (n + 5) 157 [.agg [.i .i64 vhxNo, .imm 8 R1, .imm 3 R2, .imm 3 R3, .imm 5 R4, .imm 4 R5, .imm 5 R6, .imm 4 R7, .i .i64 vhxNow], .agg [.i .i64 xxThing, .i .i64 xxHolder, .i .i64 xxWho, .i .i64 xxAt, .i .i64 xxSeal]] = (impl_isServed (⟨vhxNo, vhxFinds, vhxSecrets, vhxSlots, vhxClaims, vhxTrials, vhxChain, vhxBook, vhxNow⟩ : House) (⟨xxThing, xxHolder, xxWho, xxAt, xxSeal⟩ : Hand)).map fun r => .b r := by
  obtain ⟨rfl⟩ := H1
  obtain ⟨rfl⟩ := H2
  obtain ⟨rfl⟩ := H3
  obtain ⟨rfl⟩ := H4
  obtain ⟨rfl⟩ := H5
  obtain ⟨rfl⟩ := H6
  obtain ⟨rfl⟩ := H7
  rw [CP_eq]
  simp -dsimp +contextual only [↓evA, evB, evT, tys, encs, Nat.reduceAdd, Nat.reduceMul, Nat.reduceBEq, Nat.reduceLeDiff, Nat.reduceLT, Tryz.func157, Tryz.f157, a157, TP, orc_p, orc_l, e_slices_ContainsFunc_Claim_cimpl_isServed_1]
  try simp only [impl_isServed, evT, encs, c_js, r_map_some, e_need_t]
  all_goals rfl
theorem e_impl_AreOwners_l2 (n : Nat) (vhxNo : Int) {R1} {vhxFinds : List Find} {R2} {vhxSecrets : List Secret} {R3} {vhxSlots : List Slot} {R4} {vhxClaims : List Claim} {R5} {vhxTrials : List Trial} {R6} {vhxChain : List Hand} {R7} {vhxBook : List Entry} (vhxNow : Int) {R8} {t7 : List Hand} (t8 : Int) (t9 : Int) [H1 : EncL cFind R1 vhxFinds] [H2 : EncL cSecret R2 vhxSecrets] [H3 : EncL cSlot R3 vhxSlots] [H4 : EncL cClaim R4 vhxClaims] [H5 : EncL cTrial R5 vhxTrials] [H6 : EncL cHand R6 vhxChain] [H7 : EncL cEntry R7 vhxBook] [H8 : EncL cHand R8 t7] : LP T (n + 6) 55 2 (frm [(1, .ptr 0 0 0), (7, .imm 5 R8), (8, .i .i64 t8), (9, .i .i64 t9)]) [some (Ent.box [.i .i64 vhxNo, .imm 8 R1, .imm 3 R2, .imm 3 R3, .imm 5 R4, .imm 4 R5, .imm 5 R6, .imm 4 R7, .i .i64 vhxNow])] =
    lmap (run (impl_AreOwners_l2 (⟨vhxNo, vhxFinds, vhxSecrets, vhxSlots, vhxClaims, vhxTrials, vhxChain, vhxBook, vhxNow⟩ : House) t7 t8) t9) (fun (zr : Bool) => (XE.ret, frm [(2, .b zr)], [])) (fun (zr : Unit) => (XE.exit 0, frm [], [])) := by
  obtain ⟨rfl⟩ := H1
  obtain ⟨rfl⟩ := H2
  obtain ⟨rfl⟩ := H3
  obtain ⟨rfl⟩ := H4
  obtain ⟨rfl⟩ := H5
  obtain ⟨rfl⟩ := H6
  obtain ⟨rfl⟩ := H7
  obtain ⟨rfl⟩ := H8
  rw [LP_eq]
  simp -dsimp only [↓evA, evB, lpG_eq, Tryz.func55, Tryz.f55, a55, TP, Nat.reduceAdd, Nat.reduceMul, Nat.reduceBEq, Nat.reduceLeDiff, Nat.reduceLT]
  refine run_map (fun (zs : Int) => (frm [(1, .ptr 0 0 0), (7, .imm 5 (t7.map cHand)), (8, .i .i64 t8), (9, .i .i64 zs)], [some (Ent.box [.i .i64 (⟨vhxNo, vhxFinds, vhxSecrets, vhxSlots, vhxClaims, vhxTrials, vhxChain, vhxBook, vhxNow⟩ : House).No, .imm 8 ((⟨vhxNo, vhxFinds, vhxSecrets, vhxSlots, vhxClaims, vhxTrials, vhxChain, vhxBook, vhxNow⟩ : House).Finds.map cFind), .imm 3 ((⟨vhxNo, vhxFinds, vhxSecrets, vhxSlots, vhxClaims, vhxTrials, vhxChain, vhxBook, vhxNow⟩ : House).Secrets.map cSecret), .imm 3 ((⟨vhxNo, vhxFinds, vhxSecrets, vhxSlots, vhxClaims, vhxTrials, vhxChain, vhxBook, vhxNow⟩ : House).Slots.map cSlot), .imm 5 ((⟨vhxNo, vhxFinds, vhxSecrets, vhxSlots, vhxClaims, vhxTrials, vhxChain, vhxBook, vhxNow⟩ : House).Claims.map cClaim), .imm 4 ((⟨vhxNo, vhxFinds, vhxSecrets, vhxSlots, vhxClaims, vhxTrials, vhxChain, vhxBook, vhxNow⟩ : House).Trials.map cTrial), .imm 5 ((⟨vhxNo, vhxFinds, vhxSecrets, vhxSlots, vhxClaims, vhxTrials, vhxChain, vhxBook, vhxNow⟩ : House).Chain.map cHand), .imm 4 ((⟨vhxNo, vhxFinds, vhxSecrets, vhxSlots, vhxClaims, vhxTrials, vhxChain, vhxBook, vhxNow⟩ : House).Book.map cEntry), .i .i64 (⟨vhxNo, vhxFinds, vhxSecrets, vhxSlots, vhxClaims, vhxTrials, vhxChain, vhxBook, vhxNow⟩ : House).Now])])) (evO (fun (zr : Bool) => (XE.ret, frm [(2, .b zr)], [])) (fun (zr : Unit) => (XE.exit 0, frm [], []))) ?_ t9
  intro t9
  simp -dsimp +contextual only [↓evA, evB, evT, tys, encs, Nat.reduceAdd, Nat.reduceMul, Nat.reduceBEq, Nat.reduceLeDiff, Nat.reduceLT, TP, orc_p, orc_l, e_impl_isServed, e_impl_FindThing]
  try simp only [impl_AreOwners_l2, evT, encs, c_js, r_map_some, e_need_t]
  all_goals rfl
theorem e_impl_AreOwners (n : Nat) (vhxNo : Int) {R1} {vhxFinds : List Find} {R2} {vhxSecrets : List Secret} {R3} {vhxSlots : List Slot} {R4} {vhxClaims : List Claim} {R5} {vhxTrials : List Trial} {R6} {vhxChain : List Hand} {R7} {vhxBook : List Entry} (vhxNow : Int) [H1 : EncL cFind R1 vhxFinds] [H2 : EncL cSecret R2 vhxSecrets] [H3 : EncL cSlot R3 vhxSlots] [H4 : EncL cClaim R4 vhxClaims] [H5 : EncL cTrial R5 vhxTrials] [H6 : EncL cHand R6 vhxChain] [H7 : EncL cEntry R7 vhxBook] : CP T (n + 7) 55 [.agg [.i .i64 vhxNo, .imm 8 R1, .imm 3 R2, .imm 3 R3, .imm 5 R4, .imm 4 R5, .imm 5 R6, .imm 4 R7, .i .i64 vhxNow]] = (impl_AreOwners (⟨vhxNo, vhxFinds, vhxSecrets, vhxSlots, vhxClaims, vhxTrials, vhxChain, vhxBook, vhxNow⟩ : House)).map fun r => .b r := by
  obtain ⟨rfl⟩ := H1
  obtain ⟨rfl⟩ := H2
  obtain ⟨rfl⟩ := H3
  obtain ⟨rfl⟩ := H4
  obtain ⟨rfl⟩ := H5
  obtain ⟨rfl⟩ := H6
  obtain ⟨rfl⟩ := H7
  rw [CP_eq]
  simp -dsimp +contextual only [↓evA, evB, evT, tys, encs, Nat.reduceAdd, Nat.reduceMul, Nat.reduceBEq, Nat.reduceLeDiff, Nat.reduceLT, Tryz.func55, Tryz.f55, a55, TP, orc_p, orc_l, e_impl_AreOwners_l2]
  try simp only [impl_AreOwners, evT, encs, c_js, r_map_some, e_need_t]
  all_goals rfl
theorem e_impl_KeepDays (n : Nat) (kind : Int) : CP T (n + 1) 248 [.i .i64 kind] = (impl_KeepDays kind).map fun r => .i .i64 r := by
  rw [CP_eq]
  simp -dsimp +contextual only [↓evA, evB, evT, tys, encs, Nat.reduceAdd, Nat.reduceMul, Nat.reduceBEq, Nat.reduceLeDiff, Nat.reduceLT, Tryz.func248, Tryz.f248, a248, TP, orc_p, orc_l]
  try simp only [impl_KeepDays, evT, encs, c_js, r_map_some, e_need_t]
  all_goals rfl
theorem e_impl_DueHour (n : Nat) (fxThingxId : Int) (fxThingxKind : Int) (fxThingxColour : Int) (fxThingxSize : Int) (fxThingxWorth : Int) (fxPlace : Int) (fxAt : Int) (fxFinder : Int) : CP T (n + 4) 226 [.agg [.i .i64 fxThingxId, .i .i64 fxThingxKind, .i .i64 fxThingxColour, .i .i64 fxThingxSize, .i .i64 fxThingxWorth, .i .i64 fxPlace, .i .i64 fxAt, .i .i64 fxFinder]] = (impl_DueHour (⟨⟨fxThingxId, fxThingxKind, fxThingxColour, fxThingxSize, fxThingxWorth⟩, fxPlace, fxAt, fxFinder⟩ : Find)).map fun r => .i .i64 r := by
  rw [CP_eq]
  simp -dsimp +contextual only [↓evA, evB, evT, tys, encs, Nat.reduceAdd, Nat.reduceMul, Nat.reduceBEq, Nat.reduceLeDiff, Nat.reduceLT, Tryz.func226, Tryz.f226, a226, TP, orc_p, orc_l, e_impl_IsFind, e_impl_KeepDays]
  try simp only [impl_DueHour, evT, encs, c_js, r_map_some, e_need_t]
  all_goals rfl
theorem e_impl_IsDue (n : Nat) (fxThingxId : Int) (fxThingxKind : Int) (fxThingxColour : Int) (fxThingxSize : Int) (fxThingxWorth : Int) (fxPlace : Int) (fxAt : Int) (fxFinder : Int) (now : Int) : CP T (n + 5) 159 [.agg [.i .i64 fxThingxId, .i .i64 fxThingxKind, .i .i64 fxThingxColour, .i .i64 fxThingxSize, .i .i64 fxThingxWorth, .i .i64 fxPlace, .i .i64 fxAt, .i .i64 fxFinder], .i .i64 now] = (impl_IsDue (⟨⟨fxThingxId, fxThingxKind, fxThingxColour, fxThingxSize, fxThingxWorth⟩, fxPlace, fxAt, fxFinder⟩ : Find) now).map fun r => .b r := by
  rw [CP_eq]
  simp -dsimp +contextual only [↓evA, evB, evT, tys, encs, Nat.reduceAdd, Nat.reduceMul, Nat.reduceBEq, Nat.reduceLeDiff, Nat.reduceLT, Tryz.func159, Tryz.f159, a159, TP, orc_p, orc_l, e_impl_IsFind, e_impl_DueHour]
  try simp only [impl_IsDue, evT, encs, c_js, r_map_some, e_need_t]
  all_goals rfl
theorem e_impl_IsNeverEarly_l2 (n : Nat) (vhxNo : Int) {R1} {vhxFinds : List Find} {R2} {vhxSecrets : List Secret} {R3} {vhxSlots : List Slot} {R4} {vhxClaims : List Claim} {R5} {vhxTrials : List Trial} {R6} {vhxChain : List Hand} {R7} {vhxBook : List Entry} (vhxNow : Int) {R8} {t7 : List Hand} (t8 : Int) (t9 : Int) [H1 : EncL cFind R1 vhxFinds] [H2 : EncL cSecret R2 vhxSecrets] [H3 : EncL cSlot R3 vhxSlots] [H4 : EncL cClaim R4 vhxClaims] [H5 : EncL cTrial R5 vhxTrials] [H6 : EncL cHand R6 vhxChain] [H7 : EncL cEntry R7 vhxBook] [H8 : EncL cHand R8 t7] : LP T (n + 6) 56 2 (frm [(1, .ptr 0 0 0), (7, .imm 5 R8), (8, .i .i64 t8), (9, .i .i64 t9)]) [some (Ent.box [.i .i64 vhxNo, .imm 8 R1, .imm 3 R2, .imm 3 R3, .imm 5 R4, .imm 4 R5, .imm 5 R6, .imm 4 R7, .i .i64 vhxNow])] =
    lmap (run (impl_IsNeverEarly_l2 (⟨vhxNo, vhxFinds, vhxSecrets, vhxSlots, vhxClaims, vhxTrials, vhxChain, vhxBook, vhxNow⟩ : House) t7 t8) t9) (fun (zr : Bool) => (XE.ret, frm [(2, .b zr)], [])) (fun (zr : Unit) => (XE.exit 0, frm [], [])) := by
  obtain ⟨rfl⟩ := H1
  obtain ⟨rfl⟩ := H2
  obtain ⟨rfl⟩ := H3
  obtain ⟨rfl⟩ := H4
  obtain ⟨rfl⟩ := H5
  obtain ⟨rfl⟩ := H6
  obtain ⟨rfl⟩ := H7
  obtain ⟨rfl⟩ := H8
  rw [LP_eq]
  simp -dsimp only [↓evA, evB, lpG_eq, Tryz.func56, Tryz.f56, a56, TP, Nat.reduceAdd, Nat.reduceMul, Nat.reduceBEq, Nat.reduceLeDiff, Nat.reduceLT]
  refine run_map (fun (zs : Int) => (frm [(1, .ptr 0 0 0), (7, .imm 5 (t7.map cHand)), (8, .i .i64 t8), (9, .i .i64 zs)], [some (Ent.box [.i .i64 (⟨vhxNo, vhxFinds, vhxSecrets, vhxSlots, vhxClaims, vhxTrials, vhxChain, vhxBook, vhxNow⟩ : House).No, .imm 8 ((⟨vhxNo, vhxFinds, vhxSecrets, vhxSlots, vhxClaims, vhxTrials, vhxChain, vhxBook, vhxNow⟩ : House).Finds.map cFind), .imm 3 ((⟨vhxNo, vhxFinds, vhxSecrets, vhxSlots, vhxClaims, vhxTrials, vhxChain, vhxBook, vhxNow⟩ : House).Secrets.map cSecret), .imm 3 ((⟨vhxNo, vhxFinds, vhxSecrets, vhxSlots, vhxClaims, vhxTrials, vhxChain, vhxBook, vhxNow⟩ : House).Slots.map cSlot), .imm 5 ((⟨vhxNo, vhxFinds, vhxSecrets, vhxSlots, vhxClaims, vhxTrials, vhxChain, vhxBook, vhxNow⟩ : House).Claims.map cClaim), .imm 4 ((⟨vhxNo, vhxFinds, vhxSecrets, vhxSlots, vhxClaims, vhxTrials, vhxChain, vhxBook, vhxNow⟩ : House).Trials.map cTrial), .imm 5 ((⟨vhxNo, vhxFinds, vhxSecrets, vhxSlots, vhxClaims, vhxTrials, vhxChain, vhxBook, vhxNow⟩ : House).Chain.map cHand), .imm 4 ((⟨vhxNo, vhxFinds, vhxSecrets, vhxSlots, vhxClaims, vhxTrials, vhxChain, vhxBook, vhxNow⟩ : House).Book.map cEntry), .i .i64 (⟨vhxNo, vhxFinds, vhxSecrets, vhxSlots, vhxClaims, vhxTrials, vhxChain, vhxBook, vhxNow⟩ : House).Now])])) (evO (fun (zr : Bool) => (XE.ret, frm [(2, .b zr)], [])) (fun (zr : Unit) => (XE.exit 0, frm [], []))) ?_ t9
  intro t9
  simp -dsimp +contextual only [↓evA, evB, evT, tys, encs, Nat.reduceAdd, Nat.reduceMul, Nat.reduceBEq, Nat.reduceLeDiff, Nat.reduceLT, TP, orc_p, orc_l, e_impl_isServed, e_impl_FindThing, e_impl_IsDue]
  try simp only [impl_IsNeverEarly_l2, evT, encs, c_js, r_map_some, e_need_t]
  all_goals rfl
theorem e_impl_IsNeverEarly (n : Nat) (vhxNo : Int) {R1} {vhxFinds : List Find} {R2} {vhxSecrets : List Secret} {R3} {vhxSlots : List Slot} {R4} {vhxClaims : List Claim} {R5} {vhxTrials : List Trial} {R6} {vhxChain : List Hand} {R7} {vhxBook : List Entry} (vhxNow : Int) [H1 : EncL cFind R1 vhxFinds] [H2 : EncL cSecret R2 vhxSecrets] [H3 : EncL cSlot R3 vhxSlots] [H4 : EncL cClaim R4 vhxClaims] [H5 : EncL cTrial R5 vhxTrials] [H6 : EncL cHand R6 vhxChain] [H7 : EncL cEntry R7 vhxBook] : CP T (n + 7) 56 [.agg [.i .i64 vhxNo, .imm 8 R1, .imm 3 R2, .imm 3 R3, .imm 5 R4, .imm 4 R5, .imm 5 R6, .imm 4 R7, .i .i64 vhxNow]] = (impl_IsNeverEarly (⟨vhxNo, vhxFinds, vhxSecrets, vhxSlots, vhxClaims, vhxTrials, vhxChain, vhxBook, vhxNow⟩ : House)).map fun r => .b r := by
  obtain ⟨rfl⟩ := H1
  obtain ⟨rfl⟩ := H2
  obtain ⟨rfl⟩ := H3
  obtain ⟨rfl⟩ := H4
  obtain ⟨rfl⟩ := H5
  obtain ⟨rfl⟩ := H6
  obtain ⟨rfl⟩ := H7
  rw [CP_eq]
  simp -dsimp +contextual only [↓evA, evB, evT, tys, encs, Nat.reduceAdd, Nat.reduceMul, Nat.reduceBEq, Nat.reduceLeDiff, Nat.reduceLT, Tryz.func56, Tryz.f56, a56, TP, orc_p, orc_l, e_impl_IsNeverEarly_l2]
  try simp only [impl_IsNeverEarly, evT, encs, c_js, r_map_some, e_need_t]
  all_goals rfl
theorem e_slices_Concat_int_l3 (n : Nat) {R1} {slices : List (List Int)} (size : Int) {R2} {t9 : List (List Int)} (t10 : Int) (t11 : Int) [H1 : EncL c_li64 R1 slices] [H2 : EncL c_li64 R2 t9] : LP T (n + 1) 249 3 (frm [(0, .imm 1 R1), (3, .i .i64 size), (9, .imm 1 R2), (10, .i .i64 t10), (11, .i .i64 t11)]) [] =
    (run (slices_Concat_int_l3 slices t9 t10) (size, t11)).map (fun (zr : Int) => (XE.exit 0, frm [(0, .imm 1 (slices.map c_li64)), (3, .i .i64 zr)], [])) := by
  obtain ⟨rfl⟩ := H1
  obtain ⟨rfl⟩ := H2
  rw [LP_eq]
  simp -dsimp only [↓evA, evB, lpG_eq, Tryz.func249, Tryz.f249, a249, TP, Nat.reduceAdd, Nat.reduceMul, Nat.reduceBEq, Nat.reduceLeDiff, Nat.reduceLT]
  refine run_map (fun (zs : Int × Int) => (frm [(0, .imm 1 (slices.map c_li64)), (3, .i .i64 zs.1), (9, .imm 1 (t9.map c_li64)), (10, .i .i64 t10), (11, .i .i64 zs.2)], [])) (fun (zr : Int) => (XE.exit 0, frm [(0, .imm 1 (slices.map c_li64)), (3, .i .i64 zr)], [])) ?_ (size, t11)
  rintro ⟨size, t11⟩
  simp -dsimp +contextual only [↓evA, evB, evT, tys, encs, Nat.reduceAdd, Nat.reduceMul, Nat.reduceBEq, Nat.reduceLeDiff, Nat.reduceLT, TP, orc_p, orc_l]
  try simp only [slices_Concat_int_l3, evT, encs, c_js, r_map_some, e_need_t]
  all_goals rfl
theorem e_slices_Concat_int_l11 (n : Nat) {R1} {newslice : List Int} {R2} {t25 : List (List Int)} (t26 : Int) (t27 : Int) [H1 : EncL c_i64 R1 newslice] [H2 : EncL c_li64 R2 t25] : LP T (n + 1) 249 11 (frm [(6, .sl 0), (25, .imm 1 R2), (26, .i .i64 t26), (27, .i .i64 t27)]) [some (Ent.lst 1 R1)] =
    (run (slices_Concat_int_l11 t25 t26) (newslice, t27)).map (fun (zr : (List Int)) => (XE.exit 2, frm [(6, .sl 0)], [some (Ent.lst 1 (zr.map c_i64))])) := by
  obtain ⟨rfl⟩ := H1
  obtain ⟨rfl⟩ := H2
  rw [LP_eq]
  simp -dsimp only [↓evA, evB, lpG_eq, Tryz.func249, Tryz.f249, a249, TP, Nat.reduceAdd, Nat.reduceMul, Nat.reduceBEq, Nat.reduceLeDiff, Nat.reduceLT]
  refine run_map (fun (zs : (List Int) × Int) => (frm [(6, .sl 0), (25, .imm 1 (t25.map c_li64)), (26, .i .i64 t26), (27, .i .i64 zs.2)], [some (Ent.lst 1 (zs.1.map c_i64))])) (fun (zr : (List Int)) => (XE.exit 2, frm [(6, .sl 0)], [some (Ent.lst 1 (zr.map c_i64))])) ?_ (newslice, t27)
  rintro ⟨newslice, t27⟩
  simp -dsimp +contextual only [↓evA, evB, evT, tys, encs, Nat.reduceAdd, Nat.reduceMul, Nat.reduceBEq, Nat.reduceLeDiff, Nat.reduceLT, TP, orc_p, orc_l]
  try simp only [slices_Concat_int_l11, evT, encs, c_js, r_map_some, e_need_t]
  all_goals rfl
theorem e_slices_Concat_int (n : Nat) {R1} {slices : List (List Int)} [H1 : EncL c_li64 R1 slices] : CP T (n + 2) 249 [.imm 1 R1] = (slices_Concat_int slices).map fun r => .own 1 (r.map c_i64) := by
  obtain ⟨rfl⟩ := H1
  rw [CP_eq]
  simp -dsimp +contextual only [↓evA, evB, evT, tys, encs, Nat.reduceAdd, Nat.reduceMul, Nat.reduceBEq, Nat.reduceLeDiff, Nat.reduceLT, Tryz.func249, Tryz.f249, a249, TP, orc_p, orc_l, e_slices_Grow_int, e_slices_Concat_int_l3, e_slices_Concat_int_l11]
  try simp only [slices_Concat_int, evT, encs, c_js, r_map_some, e_need_t]
  all_goals rfl
theorem e_impl_united_n1 (n : Nat) {R1} {a : List Int} [H1 : EncL c_i64 R1 a] : CP T (n + 3) 227 [.imm 1 R1, .nil] = (impl_united_n1 a).map fun r => .own 1 (r.map c_i64) := by
  obtain ⟨rfl⟩ := H1
  rw [CP_eq]
  simp -dsimp +contextual only [↓evA, evB, evT, tys, encs, Nat.reduceAdd, Nat.reduceMul, Nat.reduceBEq, Nat.reduceLeDiff, Nat.reduceLT, Tryz.func227, Tryz.f227, a227, TP, orc_p, orc_l, srt, e_slices_Concat_int]
  try simp only [impl_united_n1, evT, encs, c_js, r_map_some, e_need_t]
  all_goals rfl
theorem e_impl_AccountsOf_l3 (n : Nat) {R1} {out : List Int} {R2} {t7 : List Entry} (t8 : Int) (t9 : Int) [H1 : EncL c_i64 R1 out] [H2 : EncL cEntry R2 t7] : LP T (n + 1) 160 3 (frm [(3, .sl 0), (7, .imm 4 R2), (8, .i .i64 t8), (9, .i .i64 t9)]) [some (Ent.lst 1 R1)] =
    (run (impl_AccountsOf_l3 t7 t8) (out, t9)).map (fun (zr : (List Int)) => (XE.exit 0, frm [(3, .sl 0)], [some (Ent.lst 1 (zr.map c_i64))])) := by
  obtain ⟨rfl⟩ := H1
  obtain ⟨rfl⟩ := H2
  rw [LP_eq]
  simp -dsimp only [↓evA, evB, lpG_eq, Tryz.func160, Tryz.f160, a160, TP, Nat.reduceAdd, Nat.reduceMul, Nat.reduceBEq, Nat.reduceLeDiff, Nat.reduceLT]
  refine run_map (fun (zs : (List Int) × Int) => (frm [(3, .sl 0), (7, .imm 4 (t7.map cEntry)), (8, .i .i64 t8), (9, .i .i64 zs.2)], [some (Ent.lst 1 (zs.1.map c_i64))])) (fun (zr : (List Int)) => (XE.exit 0, frm [(3, .sl 0)], [some (Ent.lst 1 (zr.map c_i64))])) ?_ (out, t9)
  rintro ⟨out, t9⟩
  simp -dsimp +contextual only [↓evA, evB, evT, tys, encs, Nat.reduceAdd, Nat.reduceMul, Nat.reduceBEq, Nat.reduceLeDiff, Nat.reduceLT, TP, orc_p, orc_l]
  try simp only [impl_AccountsOf_l3, evT, encs, c_js, r_map_some, e_need_t]
  all_goals rfl
theorem e_impl_AccountsOf (n : Nat) {R1} {l : List Entry} [H1 : EncL cEntry R1 l] : CP T (n + 4) 160 [.imm 4 R1] = (impl_AccountsOf l).map fun r => .own 1 (r.map c_i64) := by
  obtain ⟨rfl⟩ := H1
  rw [CP_eq]
  simp -dsimp +contextual only [↓evA, evB, evT, tys, encs, Nat.reduceAdd, Nat.reduceMul, Nat.reduceBEq, Nat.reduceLeDiff, Nat.reduceLT, Tryz.func160, Tryz.f160, a160, TP, orc_p, orc_l, e_impl_united_n1, e_impl_AccountsOf_l3]
  try simp only [impl_AccountsOf, evT, encs, c_js, r_map_some, e_need_t]
  all_goals rfl
theorem e_impl_totalTo_l3 (n : Nat) (account : Int) (vn : Int) {R1} {t8 : List Entry} (t9 : Int) (t10 : Int) [H1 : EncL cEntry R1 t8] : LP T (n + 1) 228 3 (frm [(1, .i .i64 account), (5, .i .i64 vn), (8, .imm 4 R1), (9, .i .i64 t9), (10, .i .i64 t10)]) [] =
    (run (impl_totalTo_l3 account t8 t9) (vn, t10)).map (fun (zr : Int) => (XE.exit 0, frm [(5, .i .i64 zr)], [])) := by
  obtain ⟨rfl⟩ := H1
  rw [LP_eq]
  simp -dsimp only [↓evA, evB, lpG_eq, Tryz.func228, Tryz.f228, a228, TP, Nat.reduceAdd, Nat.reduceMul, Nat.reduceBEq, Nat.reduceLeDiff, Nat.reduceLT]
  refine run_map (fun (zs : Int × Int) => (frm [(1, .i .i64 account), (5, .i .i64 zs.1), (8, .imm 4 (t8.map cEntry)), (9, .i .i64 t9), (10, .i .i64 zs.2)], [])) (fun (zr : Int) => (XE.exit 0, frm [(5, .i .i64 zr)], [])) ?_ (vn, t10)
  rintro ⟨vn, t10⟩
  simp -dsimp +contextual only [↓evA, evB, evT, tys, encs, Nat.reduceAdd, Nat.reduceMul, Nat.reduceBEq, Nat.reduceLeDiff, Nat.reduceLT, TP, orc_p, orc_l]
  try simp only [impl_totalTo_l3, evT, encs, c_js, r_map_some, e_need_t]
  all_goals rfl
theorem e_impl_totalTo (n : Nat) {R1} {l : List Entry} (account : Int) [H1 : EncL cEntry R1 l] : CP T (n + 2) 228 [.imm 4 R1, .i .i64 account] = (impl_totalTo l account).map fun r => .i .i64 r := by
  obtain ⟨rfl⟩ := H1
  rw [CP_eq]
  simp -dsimp +contextual only [↓evA, evB, evT, tys, encs, Nat.reduceAdd, Nat.reduceMul, Nat.reduceBEq, Nat.reduceLeDiff, Nat.reduceLT, Tryz.func228, Tryz.f228, a228, TP, orc_p, orc_l, e_impl_totalTo_l3]
  try simp only [impl_totalTo, evT, encs, c_js, r_map_some, e_need_t]
  all_goals rfl
theorem e_impl_TotalPaid_l5 (n : Nat) (account : Int) (vn : Int) {R1} {t12 : List Entry} (t13 : Int) (t14 : Int) [H1 : EncL cEntry R1 t12] : LP T (n + 1) 229 5 (frm [(1, .i .i64 account), (5, .i .i64 vn), (12, .imm 4 R1), (13, .i .i64 t13), (14, .i .i64 t14)]) [] =
    (run (impl_TotalPaid_l5 account t12 t13) (vn, t14)).map (fun (zr : Int) => (XE.exit 0, frm [(5, .i .i64 zr)], [])) := by
  obtain ⟨rfl⟩ := H1
  rw [LP_eq]
  simp -dsimp only [↓evA, evB, lpG_eq, Tryz.func229, Tryz.f229, a229, TP, Nat.reduceAdd, Nat.reduceMul, Nat.reduceBEq, Nat.reduceLeDiff, Nat.reduceLT]
  refine run_map (fun (zs : Int × Int) => (frm [(1, .i .i64 account), (5, .i .i64 zs.1), (12, .imm 4 (t12.map cEntry)), (13, .i .i64 t13), (14, .i .i64 zs.2)], [])) (fun (zr : Int) => (XE.exit 0, frm [(5, .i .i64 zr)], [])) ?_ (vn, t14)
  rintro ⟨vn, t14⟩
  simp -dsimp +contextual only [↓evA, evB, evT, tys, encs, Nat.reduceAdd, Nat.reduceMul, Nat.reduceBEq, Nat.reduceLeDiff, Nat.reduceLT, TP, orc_p, orc_l]
  try simp only [impl_TotalPaid_l5, evT, encs, c_js, r_map_some, e_need_t]
  all_goals rfl
theorem e_impl_TotalPaid (n : Nat) {R1} {l : List Entry} (account : Int) [H1 : EncL cEntry R1 l] : CP T (n + 4) 229 [.imm 4 R1, .i .i64 account] = (impl_TotalPaid l account).map fun r => .i .i64 r := by
  obtain ⟨rfl⟩ := H1
  rw [CP_eq]
  simp -dsimp +contextual only [↓evA, evB, evT, tys, encs, Nat.reduceAdd, Nat.reduceMul, Nat.reduceBEq, Nat.reduceLeDiff, Nat.reduceLT, Tryz.func229, Tryz.f229, a229, TP, orc_p, orc_l, e_impl_AreEntries, e_impl_TotalPaid_l5]
  try simp only [impl_TotalPaid, evT, encs, c_js, r_map_some, e_need_t]
  all_goals rfl
theorem e_impl_Balance (n : Nat) {R1} {l : List Entry} (account : Int) [H1 : EncL cEntry R1 l] : CP T (n + 5) 161 [.imm 4 R1, .i .i64 account] = (impl_Balance l account).map fun r => .i .i64 r := by
  obtain ⟨rfl⟩ := H1
  rw [CP_eq]
  simp -dsimp +contextual only [↓evA, evB, evT, tys, encs, Nat.reduceAdd, Nat.reduceMul, Nat.reduceBEq, Nat.reduceLeDiff, Nat.reduceLT, Tryz.func161, Tryz.f161, a161, TP, orc_p, orc_l, e_impl_AreEntries, e_impl_totalTo, e_impl_TotalPaid]
  try simp only [impl_Balance, evT, encs, c_js, r_map_some, e_need_t]
  all_goals rfl
theorem e_impl_IsBalanced_l3 (n : Nat) (vhxNo : Int) {R1} {vhxFinds : List Find} {R2} {vhxSecrets : List Secret} {R3} {vhxSlots : List Slot} {R4} {vhxClaims : List Claim} {R5} {vhxTrials : List Trial} {R6} {vhxChain : List Hand} {R7} {vhxBook : List Entry} (vhxNow : Int) (sum : Int) {R8} {t8 : List Int} (t9 : Int) (t10 : Int) [H1 : EncL cFind R1 vhxFinds] [H2 : EncL cSecret R2 vhxSecrets] [H3 : EncL cSlot R3 vhxSlots] [H4 : EncL cClaim R4 vhxClaims] [H5 : EncL cTrial R5 vhxTrials] [H6 : EncL cHand R6 vhxChain] [H7 : EncL cEntry R7 vhxBook] [H8 : EncL c_i64 R8 t8] : LP T (n + 6) 57 3 (frm [(1, .ptr 0 0 0), (3, .i .i64 sum), (8, .sl 1), (9, .i .i64 t9), (10, .i .i64 t10)]) [some (Ent.box [.i .i64 vhxNo, .imm 8 R1, .imm 3 R2, .imm 3 R3, .imm 5 R4, .imm 4 R5, .imm 5 R6, .imm 4 R7, .i .i64 vhxNow]), some (Ent.lst 1 R8)] =
    (run (impl_IsBalanced_l3 (⟨vhxNo, vhxFinds, vhxSecrets, vhxSlots, vhxClaims, vhxTrials, vhxChain, vhxBook, vhxNow⟩ : House) t8 t9) (sum, t10)).map (fun (zr : Int) => (XE.exit 0, frm [(1, .ptr 0 0 0), (3, .i .i64 zr)], [some (Ent.box [.i .i64 (⟨vhxNo, vhxFinds, vhxSecrets, vhxSlots, vhxClaims, vhxTrials, vhxChain, vhxBook, vhxNow⟩ : House).No, .imm 8 ((⟨vhxNo, vhxFinds, vhxSecrets, vhxSlots, vhxClaims, vhxTrials, vhxChain, vhxBook, vhxNow⟩ : House).Finds.map cFind), .imm 3 ((⟨vhxNo, vhxFinds, vhxSecrets, vhxSlots, vhxClaims, vhxTrials, vhxChain, vhxBook, vhxNow⟩ : House).Secrets.map cSecret), .imm 3 ((⟨vhxNo, vhxFinds, vhxSecrets, vhxSlots, vhxClaims, vhxTrials, vhxChain, vhxBook, vhxNow⟩ : House).Slots.map cSlot), .imm 5 ((⟨vhxNo, vhxFinds, vhxSecrets, vhxSlots, vhxClaims, vhxTrials, vhxChain, vhxBook, vhxNow⟩ : House).Claims.map cClaim), .imm 4 ((⟨vhxNo, vhxFinds, vhxSecrets, vhxSlots, vhxClaims, vhxTrials, vhxChain, vhxBook, vhxNow⟩ : House).Trials.map cTrial), .imm 5 ((⟨vhxNo, vhxFinds, vhxSecrets, vhxSlots, vhxClaims, vhxTrials, vhxChain, vhxBook, vhxNow⟩ : House).Chain.map cHand), .imm 4 ((⟨vhxNo, vhxFinds, vhxSecrets, vhxSlots, vhxClaims, vhxTrials, vhxChain, vhxBook, vhxNow⟩ : House).Book.map cEntry), .i .i64 (⟨vhxNo, vhxFinds, vhxSecrets, vhxSlots, vhxClaims, vhxTrials, vhxChain, vhxBook, vhxNow⟩ : House).Now])])) := by
  obtain ⟨rfl⟩ := H1
  obtain ⟨rfl⟩ := H2
  obtain ⟨rfl⟩ := H3
  obtain ⟨rfl⟩ := H4
  obtain ⟨rfl⟩ := H5
  obtain ⟨rfl⟩ := H6
  obtain ⟨rfl⟩ := H7
  obtain ⟨rfl⟩ := H8
  rw [LP_eq]
  simp -dsimp only [↓evA, evB, lpG_eq, Tryz.func57, Tryz.f57, a57, TP, Nat.reduceAdd, Nat.reduceMul, Nat.reduceBEq, Nat.reduceLeDiff, Nat.reduceLT]
  refine run_map (fun (zs : Int × Int) => (frm [(1, .ptr 0 0 0), (3, .i .i64 zs.1), (8, .sl 1), (9, .i .i64 t9), (10, .i .i64 zs.2)], [some (Ent.box [.i .i64 (⟨vhxNo, vhxFinds, vhxSecrets, vhxSlots, vhxClaims, vhxTrials, vhxChain, vhxBook, vhxNow⟩ : House).No, .imm 8 ((⟨vhxNo, vhxFinds, vhxSecrets, vhxSlots, vhxClaims, vhxTrials, vhxChain, vhxBook, vhxNow⟩ : House).Finds.map cFind), .imm 3 ((⟨vhxNo, vhxFinds, vhxSecrets, vhxSlots, vhxClaims, vhxTrials, vhxChain, vhxBook, vhxNow⟩ : House).Secrets.map cSecret), .imm 3 ((⟨vhxNo, vhxFinds, vhxSecrets, vhxSlots, vhxClaims, vhxTrials, vhxChain, vhxBook, vhxNow⟩ : House).Slots.map cSlot), .imm 5 ((⟨vhxNo, vhxFinds, vhxSecrets, vhxSlots, vhxClaims, vhxTrials, vhxChain, vhxBook, vhxNow⟩ : House).Claims.map cClaim), .imm 4 ((⟨vhxNo, vhxFinds, vhxSecrets, vhxSlots, vhxClaims, vhxTrials, vhxChain, vhxBook, vhxNow⟩ : House).Trials.map cTrial), .imm 5 ((⟨vhxNo, vhxFinds, vhxSecrets, vhxSlots, vhxClaims, vhxTrials, vhxChain, vhxBook, vhxNow⟩ : House).Chain.map cHand), .imm 4 ((⟨vhxNo, vhxFinds, vhxSecrets, vhxSlots, vhxClaims, vhxTrials, vhxChain, vhxBook, vhxNow⟩ : House).Book.map cEntry), .i .i64 (⟨vhxNo, vhxFinds, vhxSecrets, vhxSlots, vhxClaims, vhxTrials, vhxChain, vhxBook, vhxNow⟩ : House).Now]), some (Ent.lst 1 (t8.map c_i64))])) (fun (zr : Int) => (XE.exit 0, frm [(1, .ptr 0 0 0), (3, .i .i64 zr)], [some (Ent.box [.i .i64 (⟨vhxNo, vhxFinds, vhxSecrets, vhxSlots, vhxClaims, vhxTrials, vhxChain, vhxBook, vhxNow⟩ : House).No, .imm 8 ((⟨vhxNo, vhxFinds, vhxSecrets, vhxSlots, vhxClaims, vhxTrials, vhxChain, vhxBook, vhxNow⟩ : House).Finds.map cFind), .imm 3 ((⟨vhxNo, vhxFinds, vhxSecrets, vhxSlots, vhxClaims, vhxTrials, vhxChain, vhxBook, vhxNow⟩ : House).Secrets.map cSecret), .imm 3 ((⟨vhxNo, vhxFinds, vhxSecrets, vhxSlots, vhxClaims, vhxTrials, vhxChain, vhxBook, vhxNow⟩ : House).Slots.map cSlot), .imm 5 ((⟨vhxNo, vhxFinds, vhxSecrets, vhxSlots, vhxClaims, vhxTrials, vhxChain, vhxBook, vhxNow⟩ : House).Claims.map cClaim), .imm 4 ((⟨vhxNo, vhxFinds, vhxSecrets, vhxSlots, vhxClaims, vhxTrials, vhxChain, vhxBook, vhxNow⟩ : House).Trials.map cTrial), .imm 5 ((⟨vhxNo, vhxFinds, vhxSecrets, vhxSlots, vhxClaims, vhxTrials, vhxChain, vhxBook, vhxNow⟩ : House).Chain.map cHand), .imm 4 ((⟨vhxNo, vhxFinds, vhxSecrets, vhxSlots, vhxClaims, vhxTrials, vhxChain, vhxBook, vhxNow⟩ : House).Book.map cEntry), .i .i64 (⟨vhxNo, vhxFinds, vhxSecrets, vhxSlots, vhxClaims, vhxTrials, vhxChain, vhxBook, vhxNow⟩ : House).Now])])) ?_ (sum, t10)
  rintro ⟨sum, t10⟩
  simp -dsimp +contextual only [↓evA, evB, evT, tys, encs, Nat.reduceAdd, Nat.reduceMul, Nat.reduceBEq, Nat.reduceLeDiff, Nat.reduceLT, TP, orc_p, orc_l, e_impl_Balance]
  try simp only [impl_IsBalanced_l3, evT, encs, c_js, r_map_some, e_need_t]
  all_goals rfl
theorem e_impl_IsBalanced (n : Nat) (vhxNo : Int) {R1} {vhxFinds : List Find} {R2} {vhxSecrets : List Secret} {R3} {vhxSlots : List Slot} {R4} {vhxClaims : List Claim} {R5} {vhxTrials : List Trial} {R6} {vhxChain : List Hand} {R7} {vhxBook : List Entry} (vhxNow : Int) [H1 : EncL cFind R1 vhxFinds] [H2 : EncL cSecret R2 vhxSecrets] [H3 : EncL cSlot R3 vhxSlots] [H4 : EncL cClaim R4 vhxClaims] [H5 : EncL cTrial R5 vhxTrials] [H6 : EncL cHand R6 vhxChain] [H7 : EncL cEntry R7 vhxBook] : CP T (n + 7) 57 [.agg [.i .i64 vhxNo, .imm 8 R1, .imm 3 R2, .imm 3 R3, .imm 5 R4, .imm 4 R5, .imm 5 R6, .imm 4 R7, .i .i64 vhxNow]] = (impl_IsBalanced (⟨vhxNo, vhxFinds, vhxSecrets, vhxSlots, vhxClaims, vhxTrials, vhxChain, vhxBook, vhxNow⟩ : House)).map fun r => .b r := by
  obtain ⟨rfl⟩ := H1
  obtain ⟨rfl⟩ := H2
  obtain ⟨rfl⟩ := H3
  obtain ⟨rfl⟩ := H4
  obtain ⟨rfl⟩ := H5
  obtain ⟨rfl⟩ := H6
  obtain ⟨rfl⟩ := H7
  rw [CP_eq]
  simp -dsimp +contextual only [↓evA, evB, evT, tys, encs, Nat.reduceAdd, Nat.reduceMul, Nat.reduceBEq, Nat.reduceLeDiff, Nat.reduceLT, Tryz.func57, Tryz.f57, a57, TP, orc_p, orc_l, e_impl_AccountsOf, e_impl_Balance, e_impl_IsBalanced_l3]
  try simp only [impl_IsBalanced, evT, encs, c_js, r_map_some, e_need_t]
  all_goals rfl
theorem e_impl_FaultOf (n : Nat) (vhxNo : Int) {R1} {vhxFinds : List Find} {R2} {vhxSecrets : List Secret} {R3} {vhxSlots : List Slot} {R4} {vhxClaims : List Claim} {R5} {vhxTrials : List Trial} {R6} {vhxChain : List Hand} {R7} {vhxBook : List Entry} (vhxNow : Int) [H1 : EncL cFind R1 vhxFinds] [H2 : EncL cSecret R2 vhxSecrets] [H3 : EncL cSlot R3 vhxSlots] [H4 : EncL cClaim R4 vhxClaims] [H5 : EncL cTrial R5 vhxTrials] [H6 : EncL cHand R6 vhxChain] [H7 : EncL cEntry R7 vhxBook] : CP T (n + 12) 13 [.agg [.i .i64 vhxNo, .imm 8 R1, .imm 3 R2, .imm 3 R3, .imm 5 R4, .imm 4 R5, .imm 5 R6, .imm 4 R7, .i .i64 vhxNow]] = (impl_FaultOf (⟨vhxNo, vhxFinds, vhxSecrets, vhxSlots, vhxClaims, vhxTrials, vhxChain, vhxBook, vhxNow⟩ : House)).map fun r => .s r := by
  obtain ⟨rfl⟩ := H1
  obtain ⟨rfl⟩ := H2
  obtain ⟨rfl⟩ := H3
  obtain ⟨rfl⟩ := H4
  obtain ⟨rfl⟩ := H5
  obtain ⟨rfl⟩ := H6
  obtain ⟨rfl⟩ := H7
  rw [CP_eq]
  simp -dsimp +contextual only [↓evA, evB, evT, tys, encs, Nat.reduceAdd, Nat.reduceMul, Nat.reduceBEq, Nat.reduceLeDiff, Nat.reduceLT, Tryz.func13, Tryz.f13, a13, TP, orc_p, orc_l, e_impl_IsHouse, e_impl_IsAccounted, e_impl_AreOwners, e_impl_IsNeverEarly, e_impl_IsBalanced]
  try simp only [impl_FaultOf, evT, encs, c_js, r_map_some, e_need_t]
  all_goals rfl
theorem e_laws_eqThing (n : Nat) (axId : Int) (axKind : Int) (axColour : Int) (axSize : Int) (axWorth : Int) (bxId : Int) (bxKind : Int) (bxColour : Int) (bxSize : Int) (bxWorth : Int) : CP T (n + 1) 230 [.agg [.i .i64 axId, .i .i64 axKind, .i .i64 axColour, .i .i64 axSize, .i .i64 axWorth], .agg [.i .i64 bxId, .i .i64 bxKind, .i .i64 bxColour, .i .i64 bxSize, .i .i64 bxWorth]] = (laws_eqThing (⟨axId, axKind, axColour, axSize, axWorth⟩ : Thing) (⟨bxId, bxKind, bxColour, bxSize, bxWorth⟩ : Thing)).map fun r => .b r := by
  rw [CP_eq]
  simp -dsimp +contextual only [↓evA, evB, evT, tys, encs, Nat.reduceAdd, Nat.reduceMul, Nat.reduceBEq, Nat.reduceLeDiff, Nat.reduceLT, Tryz.func230, Tryz.f230, a230, TP, orc_p, orc_l]
  try simp only [laws_eqThing, evT, encs, c_js, r_map_some, e_need_t]
  all_goals rfl
theorem e_laws_eqFind (n : Nat) (axThingxId : Int) (axThingxKind : Int) (axThingxColour : Int) (axThingxSize : Int) (axThingxWorth : Int) (axPlace : Int) (axAt : Int) (axFinder : Int) (bxThingxId : Int) (bxThingxKind : Int) (bxThingxColour : Int) (bxThingxSize : Int) (bxThingxWorth : Int) (bxPlace : Int) (bxAt : Int) (bxFinder : Int) : CP T (n + 2) 162 [.agg [.i .i64 axThingxId, .i .i64 axThingxKind, .i .i64 axThingxColour, .i .i64 axThingxSize, .i .i64 axThingxWorth, .i .i64 axPlace, .i .i64 axAt, .i .i64 axFinder], .agg [.i .i64 bxThingxId, .i .i64 bxThingxKind, .i .i64 bxThingxColour, .i .i64 bxThingxSize, .i .i64 bxThingxWorth, .i .i64 bxPlace, .i .i64 bxAt, .i .i64 bxFinder]] = (laws_eqFind (⟨⟨axThingxId, axThingxKind, axThingxColour, axThingxSize, axThingxWorth⟩, axPlace, axAt, axFinder⟩ : Find) (⟨⟨bxThingxId, bxThingxKind, bxThingxColour, bxThingxSize, bxThingxWorth⟩, bxPlace, bxAt, bxFinder⟩ : Find)).map fun r => .b r := by
  rw [CP_eq]
  simp -dsimp +contextual only [↓evA, evB, evT, tys, encs, Nat.reduceAdd, Nat.reduceMul, Nat.reduceBEq, Nat.reduceLeDiff, Nat.reduceLT, Tryz.func162, Tryz.f162, a162, TP, orc_p, orc_l, e_laws_eqThing]
  try simp only [laws_eqFind, evT, encs, c_js, r_map_some, e_need_t]
  all_goals rfl
theorem e_laws_eqFindS_l4 (n : Nat) {R1} {a : List Find} {R2} {b : List Find} (i : Int) [H1 : EncL cFind R1 a] [H2 : EncL cFind R2 b] : LP T (n + 3) 58 4 (frm [(0, .imm 8 R1), (1, .imm 8 R2), (5, .i .i64 i)]) [] =
    lmap (run (laws_eqFindS_l4 a b) i) (fun (zr : Bool) => (XE.ret, frm [(4, .b zr)], [])) (fun (zr : Unit) => (XE.exit 0, frm [], [])) := by
  obtain ⟨rfl⟩ := H1
  obtain ⟨rfl⟩ := H2
  rw [LP_eq]
  simp -dsimp only [↓evA, evB, lpG_eq, Tryz.func58, Tryz.f58, a58, TP, Nat.reduceAdd, Nat.reduceMul, Nat.reduceBEq, Nat.reduceLeDiff, Nat.reduceLT]
  refine run_map (fun (zs : Int) => (frm [(0, .imm 8 (a.map cFind)), (1, .imm 8 (b.map cFind)), (5, .i .i64 zs)], [])) (evO (fun (zr : Bool) => (XE.ret, frm [(4, .b zr)], [])) (fun (zr : Unit) => (XE.exit 0, frm [], []))) ?_ i
  intro i
  simp -dsimp +contextual only [↓evA, evB, evT, tys, encs, Nat.reduceAdd, Nat.reduceMul, Nat.reduceBEq, Nat.reduceLeDiff, Nat.reduceLT, TP, orc_p, orc_l, e_laws_eqFind]
  try simp only [laws_eqFindS_l4, evT, encs, c_js, r_map_some, e_need_t]
  all_goals rfl
theorem e_laws_eqFindS (n : Nat) {R1} {a : List Find} {R2} {b : List Find} [H1 : EncL cFind R1 a] [H2 : EncL cFind R2 b] : CP T (n + 4) 58 [.imm 8 R1, .imm 8 R2] = (laws_eqFindS a b).map fun r => .b r := by
  obtain ⟨rfl⟩ := H1
  obtain ⟨rfl⟩ := H2
  rw [CP_eq]
  simp -dsimp +contextual only [↓evA, evB, evT, tys, encs, Nat.reduceAdd, Nat.reduceMul, Nat.reduceBEq, Nat.reduceLeDiff, Nat.reduceLT, Tryz.func58, Tryz.f58, a58, TP, orc_p, orc_l, e_laws_eqFindS_l4]
  try simp only [laws_eqFindS, evT, encs, c_js, r_map_some, e_need_t]
  all_goals rfl
theorem e_laws_eqMark (n : Nat) (axQuestion : Int) (axAnswer : Int) (bxQuestion : Int) (bxAnswer : Int) : CP T (n + 1) 122 [.agg [.i .i64 axQuestion, .i .i64 axAnswer], .agg [.i .i64 bxQuestion, .i .i64 bxAnswer]] = (laws_eqMark (⟨axQuestion, axAnswer⟩ : Mark) (⟨bxQuestion, bxAnswer⟩ : Mark)).map fun r => .b r := by
  rw [CP_eq]
  simp -dsimp +contextual only [↓evA, evB, evT, tys, encs, Nat.reduceAdd, Nat.reduceMul, Nat.reduceBEq, Nat.reduceLeDiff, Nat.reduceLT, Tryz.func122, Tryz.f122, a122, TP, orc_p, orc_l]
  try simp only [laws_eqMark, evT, encs, c_js, r_map_some, e_need_t]
  all_goals rfl
theorem e_laws_eqMarkS_l4 (n : Nat) {R1} {a : List Mark} {R2} {b : List Mark} (i : Int) [H1 : EncL cMark R1 a] [H2 : EncL cMark R2 b] : LP T (n + 2) 32 4 (frm [(0, .imm 2 R1), (1, .imm 2 R2), (5, .i .i64 i)]) [] =
    lmap (run (laws_eqMarkS_l4 a b) i) (fun (zr : Bool) => (XE.ret, frm [(4, .b zr)], [])) (fun (zr : Unit) => (XE.exit 0, frm [], [])) := by
  obtain ⟨rfl⟩ := H1
  obtain ⟨rfl⟩ := H2
  rw [LP_eq]
  simp -dsimp only [↓evA, evB, lpG_eq, Tryz.func32, Tryz.f32, a32, TP, Nat.reduceAdd, Nat.reduceMul, Nat.reduceBEq, Nat.reduceLeDiff, Nat.reduceLT]
  refine run_map (fun (zs : Int) => (frm [(0, .imm 2 (a.map cMark)), (1, .imm 2 (b.map cMark)), (5, .i .i64 zs)], [])) (evO (fun (zr : Bool) => (XE.ret, frm [(4, .b zr)], [])) (fun (zr : Unit) => (XE.exit 0, frm [], []))) ?_ i
  intro i
  simp -dsimp +contextual only [↓evA, evB, evT, tys, encs, Nat.reduceAdd, Nat.reduceMul, Nat.reduceBEq, Nat.reduceLeDiff, Nat.reduceLT, TP, orc_p, orc_l, e_laws_eqMark]
  try simp only [laws_eqMarkS_l4, evT, encs, c_js, r_map_some, e_need_t]
  all_goals rfl
theorem e_laws_eqMarkS (n : Nat) {R1} {a : List Mark} {R2} {b : List Mark} [H1 : EncL cMark R1 a] [H2 : EncL cMark R2 b] : CP T (n + 3) 32 [.imm 2 R1, .imm 2 R2] = (laws_eqMarkS a b).map fun r => .b r := by
  obtain ⟨rfl⟩ := H1
  obtain ⟨rfl⟩ := H2
  rw [CP_eq]
  simp -dsimp +contextual only [↓evA, evB, evT, tys, encs, Nat.reduceAdd, Nat.reduceMul, Nat.reduceBEq, Nat.reduceLeDiff, Nat.reduceLT, Tryz.func32, Tryz.f32, a32, TP, orc_p, orc_l, e_laws_eqMarkS_l4]
  try simp only [laws_eqMarkS, evT, encs, c_js, r_map_some, e_need_t]
  all_goals rfl
theorem e_laws_eqSecret (n : Nat) (axThing : Int) {R1} {axMarks : List Mark} (axSalt : Int) (bxThing : Int) {R2} {bxMarks : List Mark} (bxSalt : Int) [H1 : EncL cMark R1 axMarks] [H2 : EncL cMark R2 bxMarks] : CP T (n + 4) 163 [.agg [.i .i64 axThing, .imm 2 R1, .i .i64 axSalt], .agg [.i .i64 bxThing, .imm 2 R2, .i .i64 bxSalt]] = (laws_eqSecret (⟨axThing, axMarks, axSalt⟩ : Secret) (⟨bxThing, bxMarks, bxSalt⟩ : Secret)).map fun r => .b r := by
  obtain ⟨rfl⟩ := H1
  obtain ⟨rfl⟩ := H2
  rw [CP_eq]
  simp -dsimp +contextual only [↓evA, evB, evT, tys, encs, Nat.reduceAdd, Nat.reduceMul, Nat.reduceBEq, Nat.reduceLeDiff, Nat.reduceLT, Tryz.func163, Tryz.f163, a163, TP, orc_p, orc_l, e_laws_eqMarkS]
  try simp only [laws_eqSecret, evT, encs, c_js, r_map_some, e_need_t]
  all_goals rfl
theorem e_laws_eqSecretS_l4 (n : Nat) {R1} {a : List Secret} {R2} {b : List Secret} (i : Int) [H1 : EncL cSecret R1 a] [H2 : EncL cSecret R2 b] : LP T (n + 5) 59 4 (frm [(0, .imm 3 R1), (1, .imm 3 R2), (5, .i .i64 i)]) [] =
    lmap (run (laws_eqSecretS_l4 a b) i) (fun (zr : Bool) => (XE.ret, frm [(4, .b zr)], [])) (fun (zr : Unit) => (XE.exit 0, frm [], [])) := by
  obtain ⟨rfl⟩ := H1
  obtain ⟨rfl⟩ := H2
  rw [LP_eq]
  simp -dsimp only [↓evA, evB, lpG_eq, Tryz.func59, Tryz.f59, a59, TP, Nat.reduceAdd, Nat.reduceMul, Nat.reduceBEq, Nat.reduceLeDiff, Nat.reduceLT]
  refine run_map (fun (zs : Int) => (frm [(0, .imm 3 (a.map cSecret)), (1, .imm 3 (b.map cSecret)), (5, .i .i64 zs)], [])) (evO (fun (zr : Bool) => (XE.ret, frm [(4, .b zr)], [])) (fun (zr : Unit) => (XE.exit 0, frm [], []))) ?_ i
  intro i
  simp -dsimp +contextual only [↓evA, evB, evT, tys, encs, Nat.reduceAdd, Nat.reduceMul, Nat.reduceBEq, Nat.reduceLeDiff, Nat.reduceLT, TP, orc_p, orc_l, e_laws_eqSecret]
  try simp only [laws_eqSecretS_l4, evT, encs, c_js, r_map_some, e_need_t]
  all_goals rfl
theorem e_laws_eqSecretS (n : Nat) {R1} {a : List Secret} {R2} {b : List Secret} [H1 : EncL cSecret R1 a] [H2 : EncL cSecret R2 b] : CP T (n + 6) 59 [.imm 3 R1, .imm 3 R2] = (laws_eqSecretS a b).map fun r => .b r := by
  obtain ⟨rfl⟩ := H1
  obtain ⟨rfl⟩ := H2
  rw [CP_eq]
  simp -dsimp +contextual only [↓evA, evB, evT, tys, encs, Nat.reduceAdd, Nat.reduceMul, Nat.reduceBEq, Nat.reduceLeDiff, Nat.reduceLT, Tryz.func59, Tryz.f59, a59, TP, orc_p, orc_l, e_laws_eqSecretS_l4]
  try simp only [laws_eqSecretS, evT, encs, c_js, r_map_some, e_need_t]
  all_goals rfl
theorem e_laws_eqSlot (n : Nat) (axId : Int) (axSize : Int) (axThing : Int) (bxId : Int) (bxSize : Int) (bxThing : Int) : CP T (n + 1) 164 [.agg [.i .i64 axId, .i .i64 axSize, .i .i64 axThing], .agg [.i .i64 bxId, .i .i64 bxSize, .i .i64 bxThing]] = (laws_eqSlot (⟨axId, axSize, axThing⟩ : Slot) (⟨bxId, bxSize, bxThing⟩ : Slot)).map fun r => .b r := by
  rw [CP_eq]
  simp -dsimp +contextual only [↓evA, evB, evT, tys, encs, Nat.reduceAdd, Nat.reduceMul, Nat.reduceBEq, Nat.reduceLeDiff, Nat.reduceLT, Tryz.func164, Tryz.f164, a164, TP, orc_p, orc_l]
  try simp only [laws_eqSlot, evT, encs, c_js, r_map_some, e_need_t]
  all_goals rfl
theorem e_laws_eqSlotS_l4 (n : Nat) {R1} {a : List Slot} {R2} {b : List Slot} (i : Int) [H1 : EncL cSlot R1 a] [H2 : EncL cSlot R2 b] : LP T (n + 2) 60 4 (frm [(0, .imm 3 R1), (1, .imm 3 R2), (5, .i .i64 i)]) [] =
    lmap (run (laws_eqSlotS_l4 a b) i) (fun (zr : Bool) => (XE.ret, frm [(4, .b zr)], [])) (fun (zr : Unit) => (XE.exit 0, frm [], [])) := by
  obtain ⟨rfl⟩ := H1
  obtain ⟨rfl⟩ := H2
  rw [LP_eq]
  simp -dsimp only [↓evA, evB, lpG_eq, Tryz.func60, Tryz.f60, a60, TP, Nat.reduceAdd, Nat.reduceMul, Nat.reduceBEq, Nat.reduceLeDiff, Nat.reduceLT]
  refine run_map (fun (zs : Int) => (frm [(0, .imm 3 (a.map cSlot)), (1, .imm 3 (b.map cSlot)), (5, .i .i64 zs)], [])) (evO (fun (zr : Bool) => (XE.ret, frm [(4, .b zr)], [])) (fun (zr : Unit) => (XE.exit 0, frm [], []))) ?_ i
  intro i
  simp -dsimp +contextual only [↓evA, evB, evT, tys, encs, Nat.reduceAdd, Nat.reduceMul, Nat.reduceBEq, Nat.reduceLeDiff, Nat.reduceLT, TP, orc_p, orc_l, e_laws_eqSlot]
  try simp only [laws_eqSlotS_l4, evT, encs, c_js, r_map_some, e_need_t]
  all_goals rfl
theorem e_laws_eqSlotS (n : Nat) {R1} {a : List Slot} {R2} {b : List Slot} [H1 : EncL cSlot R1 a] [H2 : EncL cSlot R2 b] : CP T (n + 3) 60 [.imm 3 R1, .imm 3 R2] = (laws_eqSlotS a b).map fun r => .b r := by
  obtain ⟨rfl⟩ := H1
  obtain ⟨rfl⟩ := H2
  rw [CP_eq]
  simp -dsimp +contextual only [↓evA, evB, evT, tys, encs, Nat.reduceAdd, Nat.reduceMul, Nat.reduceBEq, Nat.reduceLeDiff, Nat.reduceLT, Tryz.func60, Tryz.f60, a60, TP, orc_p, orc_l, e_laws_eqSlotS_l4]
  try simp only [laws_eqSlotS, evT, encs, c_js, r_map_some, e_need_t]
  all_goals rfl
theorem e_laws_eqClaim (n : Nat) (axId : Int) (axWho : Int) (axThing : Int) (axAt : Int) (axState : Int) (bxId : Int) (bxWho : Int) (bxThing : Int) (bxAt : Int) (bxState : Int) : CP T (n + 1) 165 [.agg [.i .i64 axId, .i .i64 axWho, .i .i64 axThing, .i .i64 axAt, .i .i64 axState], .agg [.i .i64 bxId, .i .i64 bxWho, .i .i64 bxThing, .i .i64 bxAt, .i .i64 bxState]] = (laws_eqClaim (⟨axId, axWho, axThing, axAt, axState⟩ : Claim) (⟨bxId, bxWho, bxThing, bxAt, bxState⟩ : Claim)).map fun r => .b r := by
  rw [CP_eq]
  simp -dsimp +contextual only [↓evA, evB, evT, tys, encs, Nat.reduceAdd, Nat.reduceMul, Nat.reduceBEq, Nat.reduceLeDiff, Nat.reduceLT, Tryz.func165, Tryz.f165, a165, TP, orc_p, orc_l]
  try simp only [laws_eqClaim, evT, encs, c_js, r_map_some, e_need_t]
  all_goals rfl
theorem e_laws_eqClaimS_l4 (n : Nat) {R1} {a : List Claim} {R2} {b : List Claim} (i : Int) [H1 : EncL cClaim R1 a] [H2 : EncL cClaim R2 b] : LP T (n + 2) 61 4 (frm [(0, .imm 5 R1), (1, .imm 5 R2), (5, .i .i64 i)]) [] =
    lmap (run (laws_eqClaimS_l4 a b) i) (fun (zr : Bool) => (XE.ret, frm [(4, .b zr)], [])) (fun (zr : Unit) => (XE.exit 0, frm [], [])) := by
  obtain ⟨rfl⟩ := H1
  obtain ⟨rfl⟩ := H2
  rw [LP_eq]
  simp -dsimp only [↓evA, evB, lpG_eq, Tryz.func61, Tryz.f61, a61, TP, Nat.reduceAdd, Nat.reduceMul, Nat.reduceBEq, Nat.reduceLeDiff, Nat.reduceLT]
  refine run_map (fun (zs : Int) => (frm [(0, .imm 5 (a.map cClaim)), (1, .imm 5 (b.map cClaim)), (5, .i .i64 zs)], [])) (evO (fun (zr : Bool) => (XE.ret, frm [(4, .b zr)], [])) (fun (zr : Unit) => (XE.exit 0, frm [], []))) ?_ i
  intro i
  simp -dsimp +contextual only [↓evA, evB, evT, tys, encs, Nat.reduceAdd, Nat.reduceMul, Nat.reduceBEq, Nat.reduceLeDiff, Nat.reduceLT, TP, orc_p, orc_l, e_laws_eqClaim]
  try simp only [laws_eqClaimS_l4, evT, encs, c_js, r_map_some, e_need_t]
  all_goals rfl
theorem e_laws_eqClaimS (n : Nat) {R1} {a : List Claim} {R2} {b : List Claim} [H1 : EncL cClaim R1 a] [H2 : EncL cClaim R2 b] : CP T (n + 3) 61 [.imm 5 R1, .imm 5 R2] = (laws_eqClaimS a b).map fun r => .b r := by
  obtain ⟨rfl⟩ := H1
  obtain ⟨rfl⟩ := H2
  rw [CP_eq]
  simp -dsimp +contextual only [↓evA, evB, evT, tys, encs, Nat.reduceAdd, Nat.reduceMul, Nat.reduceBEq, Nat.reduceLeDiff, Nat.reduceLT, Tryz.func61, Tryz.f61, a61, TP, orc_p, orc_l, e_laws_eqClaimS_l4]
  try simp only [laws_eqClaimS, evT, encs, c_js, r_map_some, e_need_t]
  all_goals rfl
theorem e_laws_eqTrial (n : Nat) (axClaim : Int) (axAsked : Int) (axRight : Int) (axWrong : Int) (bxClaim : Int) (bxAsked : Int) (bxRight : Int) (bxWrong : Int) : CP T (n + 1) 166 [.agg [.i .i64 axClaim, .i .i64 axAsked, .i .i64 axRight, .i .i64 axWrong], .agg [.i .i64 bxClaim, .i .i64 bxAsked, .i .i64 bxRight, .i .i64 bxWrong]] = (laws_eqTrial (⟨axClaim, axAsked, axRight, axWrong⟩ : Trial) (⟨bxClaim, bxAsked, bxRight, bxWrong⟩ : Trial)).map fun r => .b r := by
  rw [CP_eq]
  simp -dsimp +contextual only [↓evA, evB, evT, tys, encs, Nat.reduceAdd, Nat.reduceMul, Nat.reduceBEq, Nat.reduceLeDiff, Nat.reduceLT, Tryz.func166, Tryz.f166, a166, TP, orc_p, orc_l]
  try simp only [laws_eqTrial, evT, encs, c_js, r_map_some, e_need_t]
  all_goals rfl
theorem e_laws_eqTrialS_l4 (n : Nat) {R1} {a : List Trial} {R2} {b : List Trial} (i : Int) [H1 : EncL cTrial R1 a] [H2 : EncL cTrial R2 b] : LP T (n + 2) 62 4 (frm [(0, .imm 4 R1), (1, .imm 4 R2), (5, .i .i64 i)]) [] =
    lmap (run (laws_eqTrialS_l4 a b) i) (fun (zr : Bool) => (XE.ret, frm [(4, .b zr)], [])) (fun (zr : Unit) => (XE.exit 0, frm [], [])) := by
  obtain ⟨rfl⟩ := H1
  obtain ⟨rfl⟩ := H2
  rw [LP_eq]
  simp -dsimp only [↓evA, evB, lpG_eq, Tryz.func62, Tryz.f62, a62, TP, Nat.reduceAdd, Nat.reduceMul, Nat.reduceBEq, Nat.reduceLeDiff, Nat.reduceLT]
  refine run_map (fun (zs : Int) => (frm [(0, .imm 4 (a.map cTrial)), (1, .imm 4 (b.map cTrial)), (5, .i .i64 zs)], [])) (evO (fun (zr : Bool) => (XE.ret, frm [(4, .b zr)], [])) (fun (zr : Unit) => (XE.exit 0, frm [], []))) ?_ i
  intro i
  simp -dsimp +contextual only [↓evA, evB, evT, tys, encs, Nat.reduceAdd, Nat.reduceMul, Nat.reduceBEq, Nat.reduceLeDiff, Nat.reduceLT, TP, orc_p, orc_l, e_laws_eqTrial]
  try simp only [laws_eqTrialS_l4, evT, encs, c_js, r_map_some, e_need_t]
  all_goals rfl
theorem e_laws_eqTrialS (n : Nat) {R1} {a : List Trial} {R2} {b : List Trial} [H1 : EncL cTrial R1 a] [H2 : EncL cTrial R2 b] : CP T (n + 3) 62 [.imm 4 R1, .imm 4 R2] = (laws_eqTrialS a b).map fun r => .b r := by
  obtain ⟨rfl⟩ := H1
  obtain ⟨rfl⟩ := H2
  rw [CP_eq]
  simp -dsimp +contextual only [↓evA, evB, evT, tys, encs, Nat.reduceAdd, Nat.reduceMul, Nat.reduceBEq, Nat.reduceLeDiff, Nat.reduceLT, Tryz.func62, Tryz.f62, a62, TP, orc_p, orc_l, e_laws_eqTrialS_l4]
  try simp only [laws_eqTrialS, evT, encs, c_js, r_map_some, e_need_t]
  all_goals rfl
theorem e_laws_eqHand (n : Nat) (axThing : Int) (axHolder : Int) (axWho : Int) (axAt : Int) (axSeal : Int) (bxThing : Int) (bxHolder : Int) (bxWho : Int) (bxAt : Int) (bxSeal : Int) : CP T (n + 1) 167 [.agg [.i .i64 axThing, .i .i64 axHolder, .i .i64 axWho, .i .i64 axAt, .i .i64 axSeal], .agg [.i .i64 bxThing, .i .i64 bxHolder, .i .i64 bxWho, .i .i64 bxAt, .i .i64 bxSeal]] = (laws_eqHand (⟨axThing, axHolder, axWho, axAt, axSeal⟩ : Hand) (⟨bxThing, bxHolder, bxWho, bxAt, bxSeal⟩ : Hand)).map fun r => .b r := by
  rw [CP_eq]
  simp -dsimp +contextual only [↓evA, evB, evT, tys, encs, Nat.reduceAdd, Nat.reduceMul, Nat.reduceBEq, Nat.reduceLeDiff, Nat.reduceLT, Tryz.func167, Tryz.f167, a167, TP, orc_p, orc_l]
  try simp only [laws_eqHand, evT, encs, c_js, r_map_some, e_need_t]
  all_goals rfl
theorem e_laws_eqHandS_l4 (n : Nat) {R1} {a : List Hand} {R2} {b : List Hand} (i : Int) [H1 : EncL cHand R1 a] [H2 : EncL cHand R2 b] : LP T (n + 2) 63 4 (frm [(0, .imm 5 R1), (1, .imm 5 R2), (5, .i .i64 i)]) [] =
    lmap (run (laws_eqHandS_l4 a b) i) (fun (zr : Bool) => (XE.ret, frm [(4, .b zr)], [])) (fun (zr : Unit) => (XE.exit 0, frm [], [])) := by
  obtain ⟨rfl⟩ := H1
  obtain ⟨rfl⟩ := H2
  rw [LP_eq]
  simp -dsimp only [↓evA, evB, lpG_eq, Tryz.func63, Tryz.f63, a63, TP, Nat.reduceAdd, Nat.reduceMul, Nat.reduceBEq, Nat.reduceLeDiff, Nat.reduceLT]
  refine run_map (fun (zs : Int) => (frm [(0, .imm 5 (a.map cHand)), (1, .imm 5 (b.map cHand)), (5, .i .i64 zs)], [])) (evO (fun (zr : Bool) => (XE.ret, frm [(4, .b zr)], [])) (fun (zr : Unit) => (XE.exit 0, frm [], []))) ?_ i
  intro i
  simp -dsimp +contextual only [↓evA, evB, evT, tys, encs, Nat.reduceAdd, Nat.reduceMul, Nat.reduceBEq, Nat.reduceLeDiff, Nat.reduceLT, TP, orc_p, orc_l, e_laws_eqHand]
  try simp only [laws_eqHandS_l4, evT, encs, c_js, r_map_some, e_need_t]
  all_goals rfl
theorem e_laws_eqHandS (n : Nat) {R1} {a : List Hand} {R2} {b : List Hand} [H1 : EncL cHand R1 a] [H2 : EncL cHand R2 b] : CP T (n + 3) 63 [.imm 5 R1, .imm 5 R2] = (laws_eqHandS a b).map fun r => .b r := by
  obtain ⟨rfl⟩ := H1
  obtain ⟨rfl⟩ := H2
  rw [CP_eq]
  simp -dsimp +contextual only [↓evA, evB, evT, tys, encs, Nat.reduceAdd, Nat.reduceMul, Nat.reduceBEq, Nat.reduceLeDiff, Nat.reduceLT, Tryz.func63, Tryz.f63, a63, TP, orc_p, orc_l, e_laws_eqHandS_l4]
  try simp only [laws_eqHandS, evT, encs, c_js, r_map_some, e_need_t]
  all_goals rfl
theorem e_laws_eqEntry (n : Nat) (axFrom : Int) (axTo : Int) (axCents : Int) (axAt : Int) (bxFrom : Int) (bxTo : Int) (bxCents : Int) (bxAt : Int) : CP T (n + 1) 168 [.agg [.i .i64 axFrom, .i .i64 axTo, .i .i64 axCents, .i .i64 axAt], .agg [.i .i64 bxFrom, .i .i64 bxTo, .i .i64 bxCents, .i .i64 bxAt]] = (laws_eqEntry (⟨axFrom, axTo, axCents, axAt⟩ : Entry) (⟨bxFrom, bxTo, bxCents, bxAt⟩ : Entry)).map fun r => .b r := by
  rw [CP_eq]
  simp -dsimp +contextual only [↓evA, evB, evT, tys, encs, Nat.reduceAdd, Nat.reduceMul, Nat.reduceBEq, Nat.reduceLeDiff, Nat.reduceLT, Tryz.func168, Tryz.f168, a168, TP, orc_p, orc_l]
  try simp only [laws_eqEntry, evT, encs, c_js, r_map_some, e_need_t]
  all_goals rfl
theorem e_laws_eqEntryS_l4 (n : Nat) {R1} {a : List Entry} {R2} {b : List Entry} (i : Int) [H1 : EncL cEntry R1 a] [H2 : EncL cEntry R2 b] : LP T (n + 2) 64 4 (frm [(0, .imm 4 R1), (1, .imm 4 R2), (5, .i .i64 i)]) [] =
    lmap (run (laws_eqEntryS_l4 a b) i) (fun (zr : Bool) => (XE.ret, frm [(4, .b zr)], [])) (fun (zr : Unit) => (XE.exit 0, frm [], [])) := by
  obtain ⟨rfl⟩ := H1
  obtain ⟨rfl⟩ := H2
  rw [LP_eq]
  simp -dsimp only [↓evA, evB, lpG_eq, Tryz.func64, Tryz.f64, a64, TP, Nat.reduceAdd, Nat.reduceMul, Nat.reduceBEq, Nat.reduceLeDiff, Nat.reduceLT]
  refine run_map (fun (zs : Int) => (frm [(0, .imm 4 (a.map cEntry)), (1, .imm 4 (b.map cEntry)), (5, .i .i64 zs)], [])) (evO (fun (zr : Bool) => (XE.ret, frm [(4, .b zr)], [])) (fun (zr : Unit) => (XE.exit 0, frm [], []))) ?_ i
  intro i
  simp -dsimp +contextual only [↓evA, evB, evT, tys, encs, Nat.reduceAdd, Nat.reduceMul, Nat.reduceBEq, Nat.reduceLeDiff, Nat.reduceLT, TP, orc_p, orc_l, e_laws_eqEntry]
  try simp only [laws_eqEntryS_l4, evT, encs, c_js, r_map_some, e_need_t]
  all_goals rfl
theorem e_laws_eqEntryS (n : Nat) {R1} {a : List Entry} {R2} {b : List Entry} [H1 : EncL cEntry R1 a] [H2 : EncL cEntry R2 b] : CP T (n + 3) 64 [.imm 4 R1, .imm 4 R2] = (laws_eqEntryS a b).map fun r => .b r := by
  obtain ⟨rfl⟩ := H1
  obtain ⟨rfl⟩ := H2
  rw [CP_eq]
  simp -dsimp +contextual only [↓evA, evB, evT, tys, encs, Nat.reduceAdd, Nat.reduceMul, Nat.reduceBEq, Nat.reduceLeDiff, Nat.reduceLT, Tryz.func64, Tryz.f64, a64, TP, orc_p, orc_l, e_laws_eqEntryS_l4]
  try simp only [laws_eqEntryS, evT, encs, c_js, r_map_some, e_need_t]
  all_goals rfl
theorem e_laws_eqHouse (n : Nat) (axNo : Int) {R1} {axFinds : List Find} {R2} {axSecrets : List Secret} {R3} {axSlots : List Slot} {R4} {axClaims : List Claim} {R5} {axTrials : List Trial} {R6} {axChain : List Hand} {R7} {axBook : List Entry} (axNow : Int) (bxNo : Int) {R8} {bxFinds : List Find} {R9} {bxSecrets : List Secret} {R10} {bxSlots : List Slot} {R11} {bxClaims : List Claim} {R12} {bxTrials : List Trial} {R13} {bxChain : List Hand} {R14} {bxBook : List Entry} (bxNow : Int) [H1 : EncL cFind R1 axFinds] [H2 : EncL cSecret R2 axSecrets] [H3 : EncL cSlot R3 axSlots] [H4 : EncL cClaim R4 axClaims] [H5 : EncL cTrial R5 axTrials] [H6 : EncL cHand R6 axChain] [H7 : EncL cEntry R7 axBook] [H8 : EncL cFind R8 bxFinds] [H9 : EncL cSecret R9 bxSecrets] [H10 : EncL cSlot R10 bxSlots] [H11 : EncL cClaim R11 bxClaims] [H12 : EncL cTrial R12 bxTrials] [H13 : EncL cHand R13 bxChain] [H14 : EncL cEntry R14 bxBook] : CP T (n + 7) 14 [.agg [.i .i64 axNo, .imm 8 R1, .imm 3 R2, .imm 3 R3, .imm 5 R4, .imm 4 R5, .imm 5 R6, .imm 4 R7, .i .i64 axNow], .agg [.i .i64 bxNo, .imm 8 R8, .imm 3 R9, .imm 3 R10, .imm 5 R11, .imm 4 R12, .imm 5 R13, .imm 4 R14, .i .i64 bxNow]] = (laws_eqHouse (⟨axNo, axFinds, axSecrets, axSlots, axClaims, axTrials, axChain, axBook, axNow⟩ : House) (⟨bxNo, bxFinds, bxSecrets, bxSlots, bxClaims, bxTrials, bxChain, bxBook, bxNow⟩ : House)).map fun r => .b r := by
  obtain ⟨rfl⟩ := H1
  obtain ⟨rfl⟩ := H2
  obtain ⟨rfl⟩ := H3
  obtain ⟨rfl⟩ := H4
  obtain ⟨rfl⟩ := H5
  obtain ⟨rfl⟩ := H6
  obtain ⟨rfl⟩ := H7
  obtain ⟨rfl⟩ := H8
  obtain ⟨rfl⟩ := H9
  obtain ⟨rfl⟩ := H10
  obtain ⟨rfl⟩ := H11
  obtain ⟨rfl⟩ := H12
  obtain ⟨rfl⟩ := H13
  obtain ⟨rfl⟩ := H14
  rw [CP_eq]
  simp -dsimp +contextual only [↓evA, evB, evT, tys, encs, Nat.reduceAdd, Nat.reduceMul, Nat.reduceBEq, Nat.reduceLeDiff, Nat.reduceLT, Tryz.func14, Tryz.f14, a14, TP, orc_p, orc_l, e_laws_eqFindS, e_laws_eqSecretS, e_laws_eqSlotS, e_laws_eqClaimS, e_laws_eqTrialS, e_laws_eqHandS, e_laws_eqEntryS]
  try simp only [laws_eqHouse, evT, encs, c_js, r_map_some, e_need_t]
  all_goals rfl
theorem e_laws_FnExactFaultOf (n : Nat) (aHxNo : Int) {R1} {aHxFinds : List Find} {R2} {aHxSecrets : List Secret} {R3} {aHxSlots : List Slot} {R4} {aHxClaims : List Claim} {R5} {aHxTrials : List Trial} {R6} {aHxChain : List Hand} {R7} {aHxBook : List Entry} (aHxNow : Int) [H1 : EncL cFind R1 aHxFinds] [H2 : EncL cSecret R2 aHxSecrets] [H3 : EncL cSlot R3 aHxSlots] [H4 : EncL cClaim R4 aHxClaims] [H5 : EncL cTrial R5 aHxTrials] [H6 : EncL cHand R6 aHxChain] [H7 : EncL cEntry R7 aHxBook] : CP T (n + 13) 3 [.agg [.i .i64 aHxNo, .imm 8 R1, .imm 3 R2, .imm 3 R3, .imm 5 R4, .imm 4 R5, .imm 5 R6, .imm 4 R7, .i .i64 aHxNow]] = (laws_FnExactFaultOf (⟨aHxNo, aHxFinds, aHxSecrets, aHxSlots, aHxClaims, aHxTrials, aHxChain, aHxBook, aHxNow⟩ : House)).map fun r => .b r := by
  obtain ⟨rfl⟩ := H1
  obtain ⟨rfl⟩ := H2
  obtain ⟨rfl⟩ := H3
  obtain ⟨rfl⟩ := H4
  obtain ⟨rfl⟩ := H5
  obtain ⟨rfl⟩ := H6
  obtain ⟨rfl⟩ := H7
  rw [CP_eq]
  simp -dsimp +contextual only [↓evA, evB, evT, tys, encs, Nat.reduceAdd, Nat.reduceMul, Nat.reduceBEq, Nat.reduceLeDiff, Nat.reduceLT, Tryz.func3, Tryz.f3, a3, TP, orc_p, orc_l, e_laws_szHouse, e_laws_toHouse, e_spec_FaultOf, e_impl_FaultOf, e_laws_eqHouse]
  try simp only [laws_FnExactFaultOf, evT, encs, c_js, r_map_some, e_need_t]
  all_goals rfl
end Go.Proofs.YtlnajgoeoklioaaGreat
