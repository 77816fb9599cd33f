/- The functions of the program come to the typed ones. No condition. -/
import Derived.Test.YtcdffihcfeajfaaGreatEc
namespace Go.Proofs.YtcdffihcfeajfaaGreat
open Go Go.Proofs Go.Proofs.YtcdffihcfeajfaaGreat.Am
set_option maxHeartbeats 4000000
set_option linter.unusedVariables false
set_option linter.unusedSimpArgs false
set_option linter.defProp false
set_option maxRecDepth 100000
theorem e_laws_szFindS (n : Nat) {R1} {a : List Find} (left : Int) [H1 : EncL cFind R1 a] : CP T (n + 1) 85 [.imm 8 R1, .i .i64 left] = (laws_szFindS a left).map fun r => .i .i64 r := by
  obtain ⟨rfl⟩ := H1
  rw [CP_eq]
  simp -dsimp +contextual only [↓evA, eZ, Nat.reduceAdd, Nat.reduceMul, Nat.reduceBEq, Nat.reduceLeDiff, Nat.reduceLT, Tryz.func85, Tryz.f85, a85]
  try simp only [laws_szFindS, eY]
  all_goals rfl
theorem e_laws_szMarkS (n : Nat) {R1} {a : List Mark} (left : Int) [H1 : EncL cMark R1 a] : CP T (n + 1) 34 [.imm 2 R1, .i .i64 left] = (laws_szMarkS a left).map fun r => .i .i64 r := by
  obtain ⟨rfl⟩ := H1
  rw [CP_eq]
  simp -dsimp +contextual only [↓evA, eZ, Nat.reduceAdd, Nat.reduceMul, Nat.reduceBEq, Nat.reduceLeDiff, Nat.reduceLT, Tryz.func34, Tryz.f34, a34]
  try simp only [laws_szMarkS, eY]
  all_goals rfl
theorem e_laws_szSecret (n : Nat) (axThing : Int) {R1} {axMarks : List Mark} (axSalt : Int) (left : Int) [H1 : EncL cMark R1 axMarks] : CP T (n + 2) 171 [.agg [.i .i64 axThing, .imm 2 R1, .i .i64 axSalt], .i .i64 left] = (laws_szSecret (⟨axThing, axMarks, axSalt⟩ : Secret) left).map fun r => .i .i64 r := by
  obtain ⟨rfl⟩ := H1
  rw [CP_eq]
  simp -dsimp +contextual only [↓evA, eZ, Nat.reduceAdd, Nat.reduceMul, Nat.reduceBEq, Nat.reduceLeDiff, Nat.reduceLT, Tryz.func171, Tryz.f171, a171, e_laws_szMarkS]
  try simp only [laws_szSecret, eY]
  all_goals rfl
theorem e_laws_szSecretS_l5 (n : Nat) {R1} {a : List Secret} (left : Int) (i : Int) [H1 : EncL cSecret R1 a] : LP T (n + 3) 86 5 (frm [(0, .imm 3 R1), (1, .i .i64 left), (5, .i .i64 i)]) [] =
    lmap (run (laws_szSecretS_l5 a) (left, i)) (fun (zr : Int) => (XE.ret, frm [(4, .i .i64 zr)], [])) (fun (zr : Int) => (XE.exit 0, frm [(1, .i .i64 zr)], [])) := by
  obtain ⟨rfl⟩ := H1
  rw [LP_eq]
  simp -dsimp only [↓evA, evB, lpG_eq, Tryz.func86, Tryz.f86, a86, TP, TZ, Nat.reduceAdd, Nat.reduceMul, Nat.reduceBEq, Nat.reduceLeDiff, Nat.reduceLT]
  refine run_map (fun (zs : Int × Int) => (frm [(0, .imm 3 (a.map cSecret)), (1, .i .i64 zs.1), (5, .i .i64 zs.2)], [])) (evO (fun (zr : Int) => (XE.ret, frm [(4, .i .i64 zr)], [])) (fun (zr : Int) => (XE.exit 0, frm [(1, .i .i64 zr)], []))) ?_ (left, i)
  rintro ⟨left, i⟩
  simp -dsimp +contextual only [↓evA, eZ, Nat.reduceAdd, Nat.reduceMul, Nat.reduceBEq, Nat.reduceLeDiff, Nat.reduceLT, e_laws_szSecret]
  try simp only [laws_szSecretS_l5, eY]
  all_goals rfl
theorem e_laws_szSecretS (n : Nat) {R1} {a : List Secret} (left : Int) [H1 : EncL cSecret R1 a] : CP T (n + 4) 86 [.imm 3 R1, .i .i64 left] = (laws_szSecretS a left).map fun r => .i .i64 r := by
  obtain ⟨rfl⟩ := H1
  rw [CP_eq]
  simp -dsimp +contextual only [↓evA, eZ, Nat.reduceAdd, Nat.reduceMul, Nat.reduceBEq, Nat.reduceLeDiff, Nat.reduceLT, Tryz.func86, Tryz.f86, a86, e_laws_szSecretS_l5]
  try simp only [laws_szSecretS, eY]
  all_goals rfl
theorem e_laws_szSlotS (n : Nat) {R1} {a : List Slot} (left : Int) [H1 : EncL cSlot R1 a] : CP T (n + 1) 13 [.imm 3 R1, .i .i64 left] = (laws_szSlotS a left).map fun r => .i .i64 r := by
  obtain ⟨rfl⟩ := H1
  rw [CP_eq]
  simp -dsimp +contextual only [↓evA, eZ, Nat.reduceAdd, Nat.reduceMul, Nat.reduceBEq, Nat.reduceLeDiff, Nat.reduceLT, Tryz.func13, Tryz.f13, a13]
  try simp only [laws_szSlotS, eY]
  all_goals rfl
theorem e_laws_szClaimS (n : Nat) {R1} {a : List Claim} (left : Int) [H1 : EncL cClaim R1 a] : CP T (n + 1) 87 [.imm 5 R1, .i .i64 left] = (laws_szClaimS a left).map fun r => .i .i64 r := by
  obtain ⟨rfl⟩ := H1
  rw [CP_eq]
  simp -dsimp +contextual only [↓evA, eZ, Nat.reduceAdd, Nat.reduceMul, Nat.reduceBEq, Nat.reduceLeDiff, Nat.reduceLT, Tryz.func87, Tryz.f87, a87]
  try simp only [laws_szClaimS, eY]
  all_goals rfl
theorem e_laws_szTrialS (n : Nat) {R1} {a : List Trial} (left : Int) [H1 : EncL cTrial R1 a] : CP T (n + 1) 88 [.imm 4 R1, .i .i64 left] = (laws_szTrialS a left).map fun r => .i .i64 r := by
  obtain ⟨rfl⟩ := H1
  rw [CP_eq]
  simp -dsimp +contextual only [↓evA, eZ, Nat.reduceAdd, Nat.reduceMul, Nat.reduceBEq, Nat.reduceLeDiff, Nat.reduceLT, Tryz.func88, Tryz.f88, a88]
  try simp only [laws_szTrialS, eY]
  all_goals rfl
theorem e_laws_szHandS (n : Nat) {R1} {a : List Hand} (left : Int) [H1 : EncL cHand R1 a] : CP T (n + 1) 89 [.imm 5 R1, .i .i64 left] = (laws_szHandS a left).map fun r => .i .i64 r := by
  obtain ⟨rfl⟩ := H1
  rw [CP_eq]
  simp -dsimp +contextual only [↓evA, eZ, Nat.reduceAdd, Nat.reduceMul, Nat.reduceBEq, Nat.reduceLeDiff, Nat.reduceLT, Tryz.func89, Tryz.f89, a89]
  try simp only [laws_szHandS, eY]
  all_goals rfl
theorem e_laws_szEntryS (n : Nat) {R1} {a : List Entry} (left : Int) [H1 : EncL cEntry R1 a] : CP T (n + 1) 90 [.imm 4 R1, .i .i64 left] = (laws_szEntryS a left).map fun r => .i .i64 r := by
  obtain ⟨rfl⟩ := H1
  rw [CP_eq]
  simp -dsimp +contextual only [↓evA, eZ, Nat.reduceAdd, Nat.reduceMul, Nat.reduceBEq, Nat.reduceLeDiff, Nat.reduceLT, Tryz.func90, Tryz.f90, a90]
  try simp only [laws_szEntryS, eY]
  all_goals rfl
theorem e_laws_szHouse (n : Nat) (axNo : Int) {R1} {axFinds : List Find} {R2} {axSecrets : List Secret} {R3} {axSlots : List Slot} {R4} {axClaims : List Claim} {R5} {axTrials : List Trial} {R6} {axChain : List Hand} {R7} {axBook : List Entry} (axNow : Int) (left : Int) [H1 : EncL cFind R1 axFinds] [H2 : EncL cSecret R2 axSecrets] [H3 : EncL cSlot R3 axSlots] [H4 : EncL cClaim R4 axClaims] [H5 : EncL cTrial R5 axTrials] [H6 : EncL cHand R6 axChain] [H7 : EncL cEntry R7 axBook] : CP T (n + 5) 22 [.agg [.i .i64 axNo, .imm 8 R1, .imm 3 R2, .imm 3 R3, .imm 5 R4, .imm 4 R5, .imm 5 R6, .imm 4 R7, .i .i64 axNow], .i .i64 left] = (laws_szHouse (⟨axNo, axFinds, axSecrets, axSlots, axClaims, axTrials, axChain, axBook, axNow⟩ : House) left).map fun r => .i .i64 r := by
  rcases H1, H2, H3, H4, H5, H6, H7 with ⟨⟨rfl⟩, ⟨rfl⟩, ⟨rfl⟩, ⟨rfl⟩, ⟨rfl⟩, ⟨rfl⟩, ⟨rfl⟩⟩
  rw [CP_eq]
  simp -dsimp +contextual (maxSteps := 100000000) only [↓evA, eZ, Nat.reduceAdd, Nat.reduceMul, Nat.reduceBEq, Nat.reduceLeDiff, Nat.reduceLT, Tryz.func22, Tryz.f22, a22, e_laws_szFindS, e_laws_szSecretS, e_laws_szSlotS, e_laws_szClaimS, e_laws_szTrialS, e_laws_szHandS, e_laws_szEntryS]
  try simp only [laws_szHouse, eY]
  all_goals rfl
theorem e_laws_toThing (n : Nat) (axId : Int) (axKind : Int) (axColour : Int) (axSize : Int) (axWorth : Int) : CP T (n + 1) 133 [.agg [.i .i64 axId, .i .i64 axKind, .i .i64 axColour, .i .i64 axSize, .i .i64 axWorth]] = (laws_toThing (⟨axId, axKind, axColour, axSize, axWorth⟩ : Thing)).map fun r => .agg (cThing r) := by
  rw [CP_eq]
  simp -dsimp +contextual only [↓evA, eZ, Nat.reduceAdd, Nat.reduceMul, Nat.reduceBEq, Nat.reduceLeDiff, Nat.reduceLT, Tryz.func133, Tryz.f133, a133]
  try simp only [laws_toThing, eY]
  all_goals rfl
theorem e_laws_toFind (n : Nat) (axThingxId : Int) (axThingxKind : Int) (axThingxColour : Int) (axThingxSize : Int) (axThingxWorth : Int) (axPlace : Int) (axAt : Int) (axFinder : Int) : CP T (n + 2) 36 [.agg [.i .i64 axThingxId, .i .i64 axThingxKind, .i .i64 axThingxColour, .i .i64 axThingxSize, .i .i64 axThingxWorth, .i .i64 axPlace, .i .i64 axAt, .i .i64 axFinder]] = (laws_toFind (⟨⟨axThingxId, axThingxKind, axThingxColour, axThingxSize, axThingxWorth⟩, axPlace, axAt, axFinder⟩ : Find)).map fun r => .agg (cFind r) := by
  rw [CP_eq]
  simp -dsimp +contextual only [↓evA, eZ, Nat.reduceAdd, Nat.reduceMul, Nat.reduceBEq, Nat.reduceLeDiff, Nat.reduceLT, Tryz.func36, Tryz.f36, a36, e_laws_toThing]
  try simp only [laws_toFind, eY]
  all_goals rfl
theorem e_laws_toFindS_l3 (n : Nat) {R1} {a : List Find} {R2} {out : List Find} (i : Int) [H1 : EncL cFind R1 a] [H2 : EncL cFind R2 out] : LP T (n + 3) 93 3 (frm [(0, .imm 8 R1), (3, .sl 0), (4, .i .i64 i)]) [some (Ent.lst 8 R2)] =
    (run (laws_toFindS_l3 a) (out, i)).map (fun (zr : (List Find)) => (XE.exit 0, frm [(3, .sl 0)], [some (Ent.lst 8 (zr.map cFind))])) := by
  rcases H1, H2 with ⟨⟨rfl⟩, ⟨rfl⟩⟩
  rw [LP_eq]
  simp -dsimp only [↓evA, evB, lpG_eq, Tryz.func93, Tryz.f93, a93, TP, TZ, Nat.reduceAdd, Nat.reduceMul, Nat.reduceBEq, Nat.reduceLeDiff, Nat.reduceLT]
  refine run_map (fun (zs : (List Find) × Int) => (frm [(0, .imm 8 (a.map cFind)), (3, .sl 0), (4, .i .i64 zs.2)], [some (Ent.lst 8 (zs.1.map cFind))])) (fun (zr : (List Find)) => (XE.exit 0, frm [(3, .sl 0)], [some (Ent.lst 8 (zr.map cFind))])) ?_ (out, i)
  rintro ⟨out, i⟩
  simp -dsimp +contextual only [↓evA, eZ, Nat.reduceAdd, Nat.reduceMul, Nat.reduceBEq, Nat.reduceLeDiff, Nat.reduceLT, e_laws_toFind]
  try simp only [laws_toFindS_l3, eY]
  all_goals rfl
theorem e_laws_toFindS (n : Nat) {R1} {a : List Find} [H1 : EncL cFind R1 a] : CP T (n + 4) 93 [.imm 8 R1] = (laws_toFindS a).map fun r => .own 8 (r.map cFind) := by
  obtain ⟨rfl⟩ := H1
  rw [CP_eq]
  simp -dsimp +contextual only [↓evA, eZ, Nat.reduceAdd, Nat.reduceMul, Nat.reduceBEq, Nat.reduceLeDiff, Nat.reduceLT, Tryz.func93, Tryz.f93, a93, e_laws_toFindS_l3]
  try simp only [laws_toFindS, eY]
  all_goals first | rfl | (simp +contextual only [evN] <;> rfl)
theorem e_laws_toMark (n : Nat) (axQuestion : Int) (axAnswer : Int) : CP T (n + 1) 134 [.agg [.i .i64 axQuestion, .i .i64 axAnswer]] = (laws_toMark (⟨axQuestion, axAnswer⟩ : Mark)).map fun r => .agg (cMark r) := by
  rw [CP_eq]
  simp -dsimp +contextual only [↓evA, eZ, Nat.reduceAdd, Nat.reduceMul, Nat.reduceBEq, Nat.reduceLeDiff, Nat.reduceLT, Tryz.func134, Tryz.f134, a134]
  try simp only [laws_toMark, eY]
  all_goals rfl
theorem e_laws_toMarkS_l3 (n : Nat) {R1} {a : List Mark} {R2} {out : List Mark} (i : Int) [H1 : EncL cMark R1 a] [H2 : EncL cMark R2 out] : LP T (n + 2) 37 3 (frm [(0, .imm 2 R1), (3, .sl 0), (4, .i .i64 i)]) [some (Ent.lst 2 R2)] =
    (run (laws_toMarkS_l3 a) (out, i)).map (fun (zr : (List Mark)) => (XE.exit 0, frm [(3, .sl 0)], [some (Ent.lst 2 (zr.map cMark))])) := by
  rcases H1, H2 with ⟨⟨rfl⟩, ⟨rfl⟩⟩
  rw [LP_eq]
  simp -dsimp only [↓evA, evB, lpG_eq, Tryz.func37, Tryz.f37, a37, TP, TZ, Nat.reduceAdd, Nat.reduceMul, Nat.reduceBEq, Nat.reduceLeDiff, Nat.reduceLT]
  refine run_map (fun (zs : (List Mark) × Int) => (frm [(0, .imm 2 (a.map cMark)), (3, .sl 0), (4, .i .i64 zs.2)], [some (Ent.lst 2 (zs.1.map cMark))])) (fun (zr : (List Mark)) => (XE.exit 0, frm [(3, .sl 0)], [some (Ent.lst 2 (zr.map cMark))])) ?_ (out, i)
  rintro ⟨out, i⟩
  simp -dsimp +contextual only [↓evA, eZ, Nat.reduceAdd, Nat.reduceMul, Nat.reduceBEq, Nat.reduceLeDiff, Nat.reduceLT, e_laws_toMark]
  try simp only [laws_toMarkS_l3, eY]
  all_goals rfl
theorem e_laws_toMarkS (n : Nat) {R1} {a : List Mark} [H1 : EncL cMark R1 a] : CP T (n + 3) 37 [.imm 2 R1] = (laws_toMarkS a).map fun r => .own 2 (r.map cMark) := by
  obtain ⟨rfl⟩ := H1
  rw [CP_eq]
  simp -dsimp +contextual only [↓evA, eZ, Nat.reduceAdd, Nat.reduceMul, Nat.reduceBEq, Nat.reduceLeDiff, Nat.reduceLT, Tryz.func37, Tryz.f37, a37, e_laws_toMarkS_l3]
  try simp only [laws_toMarkS, eY]
  all_goals first | rfl | (simp +contextual only [evN] <;> rfl)
theorem e_laws_toSecret (n : Nat) (axThing : Int) {R1} {axMarks : List Mark} (axSalt : Int) [H1 : EncL cMark R1 axMarks] : CP T (n + 4) 172 [.agg [.i .i64 axThing, .imm 2 R1, .i .i64 axSalt]] = (laws_toSecret (⟨axThing, axMarks, axSalt⟩ : Secret)).map fun r => .agg (cSecretO r) := by
  obtain ⟨rfl⟩ := H1
  rw [CP_eq]
  simp -dsimp +contextual only [↓evA, eZ, Nat.reduceAdd, Nat.reduceMul, Nat.reduceBEq, Nat.reduceLeDiff, Nat.reduceLT, Tryz.func172, Tryz.f172, a172, e_laws_toMarkS]
  try simp only [laws_toSecret, eY]
  all_goals rfl
theorem e_laws_toSecretS_l3 (n : Nat) {R1} {a : List Secret} {R2} {out : List Secret} (i : Int) [H1 : EncL cSecret R1 a] [H2 : EncL cSecretO R2 out] : LP T (n + 5) 94 3 (frm [(0, .imm 3 R1), (3, .sl 0), (4, .i .i64 i)]) [some (Ent.lst 3 R2)] =
    (run (laws_toSecretS_l3 a) (out, i)).map (fun (zr : (List Secret)) => (XE.exit 0, frm [(3, .sl 0)], [some (Ent.lst 3 (zr.map cSecretO))])) := by
  rcases H1, H2 with ⟨⟨rfl⟩, ⟨rfl⟩⟩
  rw [LP_eq]
  simp -dsimp only [↓evA, evB, lpG_eq, Tryz.func94, Tryz.f94, a94, TP, TZ, Nat.reduceAdd, Nat.reduceMul, Nat.reduceBEq, Nat.reduceLeDiff, Nat.reduceLT]
  refine run_map (fun (zs : (List Secret) × Int) => (frm [(0, .imm 3 (a.map cSecret)), (3, .sl 0), (4, .i .i64 zs.2)], [some (Ent.lst 3 (zs.1.map cSecretO))])) (fun (zr : (List Secret)) => (XE.exit 0, frm [(3, .sl 0)], [some (Ent.lst 3 (zr.map cSecretO))])) ?_ (out, i)
  rintro ⟨out, i⟩
  simp -dsimp +contextual only [↓evA, eZ, Nat.reduceAdd, Nat.reduceMul, Nat.reduceBEq, Nat.reduceLeDiff, Nat.reduceLT, e_laws_toSecret]
  try simp only [laws_toSecretS_l3, eY]
  all_goals rfl
theorem e_laws_toSecretS (n : Nat) {R1} {a : List Secret} [H1 : EncL cSecret R1 a] : CP T (n + 6) 94 [.imm 3 R1] = (laws_toSecretS a).map fun r => .own 3 (r.map cSecretO) := by
  obtain ⟨rfl⟩ := H1
  rw [CP_eq]
  simp -dsimp +contextual only [↓evA, eZ, Nat.reduceAdd, Nat.reduceMul, Nat.reduceBEq, Nat.reduceLeDiff, Nat.reduceLT, Tryz.func94, Tryz.f94, a94, e_laws_toSecretS_l3]
  try simp only [laws_toSecretS, eY]
  all_goals first | rfl | (simp +contextual only [evN] <;> rfl)
theorem e_laws_toSlot (n : Nat) (axId : Int) (axSize : Int) (axThing : Int) : CP T (n + 1) 62 [.agg [.i .i64 axId, .i .i64 axSize, .i .i64 axThing]] = (laws_toSlot (⟨axId, axSize, axThing⟩ : Slot)).map fun r => .agg (cSlot r) := by
  rw [CP_eq]
  simp -dsimp +contextual only [↓evA, eZ, Nat.reduceAdd, Nat.reduceMul, Nat.reduceBEq, Nat.reduceLeDiff, Nat.reduceLT, Tryz.func62, Tryz.f62, a62]
  try simp only [laws_toSlot, eY]
  all_goals rfl
theorem e_laws_toSlotS_l3 (n : Nat) {R1} {a : List Slot} {R2} {out : List Slot} (i : Int) [H1 : EncL cSlot R1 a] [H2 : EncL cSlot R2 out] : LP T (n + 2) 15 3 (frm [(0, .imm 3 R1), (3, .sl 0), (4, .i .i64 i)]) [some (Ent.lst 3 R2)] =
    (run (laws_toSlotS_l3 a) (out, i)).map (fun (zr : (List Slot)) => (XE.exit 0, frm [(3, .sl 0)], [some (Ent.lst 3 (zr.map cSlot))])) := by
  rcases H1, H2 with ⟨⟨rfl⟩, ⟨rfl⟩⟩
  rw [LP_eq]
  simp -dsimp only [↓evA, evB, lpG_eq, Tryz.func15, Tryz.f15, a15, TP, TZ, Nat.reduceAdd, Nat.reduceMul, Nat.reduceBEq, Nat.reduceLeDiff, Nat.reduceLT]
  refine run_map (fun (zs : (List Slot) × Int) => (frm [(0, .imm 3 (a.map cSlot)), (3, .sl 0), (4, .i .i64 zs.2)], [some (Ent.lst 3 (zs.1.map cSlot))])) (fun (zr : (List Slot)) => (XE.exit 0, frm [(3, .sl 0)], [some (Ent.lst 3 (zr.map cSlot))])) ?_ (out, i)
  rintro ⟨out, i⟩
  simp -dsimp +contextual only [↓evA, eZ, Nat.reduceAdd, Nat.reduceMul, Nat.reduceBEq, Nat.reduceLeDiff, Nat.reduceLT, e_laws_toSlot]
  try simp only [laws_toSlotS_l3, eY]
  all_goals rfl
theorem e_laws_toSlotS (n : Nat) {R1} {a : List Slot} [H1 : EncL cSlot R1 a] : CP T (n + 3) 15 [.imm 3 R1] = (laws_toSlotS a).map fun r => .own 3 (r.map cSlot) := by
  obtain ⟨rfl⟩ := H1
  rw [CP_eq]
  simp -dsimp +contextual only [↓evA, eZ, Nat.reduceAdd, Nat.reduceMul, Nat.reduceBEq, Nat.reduceLeDiff, Nat.reduceLT, Tryz.func15, Tryz.f15, a15, e_laws_toSlotS_l3]
  try simp only [laws_toSlotS, eY]
  all_goals first | rfl | (simp +contextual only [evN] <;> rfl)
theorem e_laws_toClaim (n : Nat) (axId : Int) (axWho : Int) (axThing : Int) (axAt : Int) (axState : Int) : CP T (n + 1) 173 [.agg [.i .i64 axId, .i .i64 axWho, .i .i64 axThing, .i .i64 axAt, .i .i64 axState]] = (laws_toClaim (⟨axId, axWho, axThing, axAt, axState⟩ : Claim)).map fun r => .agg (cClaim r) := by
  rw [CP_eq]
  simp -dsimp +contextual only [↓evA, eZ, Nat.reduceAdd, Nat.reduceMul, Nat.reduceBEq, Nat.reduceLeDiff, Nat.reduceLT, Tryz.func173, Tryz.f173, a173]
  try simp only [laws_toClaim, eY]
  all_goals rfl
theorem e_laws_toClaimS_l3 (n : Nat) {R1} {a : List Claim} {R2} {out : List Claim} (i : Int) [H1 : EncL cClaim R1 a] [H2 : EncL cClaim R2 out] : LP T (n + 2) 95 3 (frm [(0, .imm 5 R1), (3, .sl 0), (4, .i .i64 i)]) [some (Ent.lst 5 R2)] =
    (run (laws_toClaimS_l3 a) (out, i)).map (fun (zr : (List Claim)) => (XE.exit 0, frm [(3, .sl 0)], [some (Ent.lst 5 (zr.map cClaim))])) := by
  rcases H1, H2 with ⟨⟨rfl⟩, ⟨rfl⟩⟩
  rw [LP_eq]
  simp -dsimp only [↓evA, evB, lpG_eq, Tryz.func95, Tryz.f95, a95, TP, TZ, Nat.reduceAdd, Nat.reduceMul, Nat.reduceBEq, Nat.reduceLeDiff, Nat.reduceLT]
  refine run_map (fun (zs : (List Claim) × Int) => (frm [(0, .imm 5 (a.map cClaim)), (3, .sl 0), (4, .i .i64 zs.2)], [some (Ent.lst 5 (zs.1.map cClaim))])) (fun (zr : (List Claim)) => (XE.exit 0, frm [(3, .sl 0)], [some (Ent.lst 5 (zr.map cClaim))])) ?_ (out, i)
  rintro ⟨out, i⟩
  simp -dsimp +contextual only [↓evA, eZ, Nat.reduceAdd, Nat.reduceMul, Nat.reduceBEq, Nat.reduceLeDiff, Nat.reduceLT, e_laws_toClaim]
  try simp only [laws_toClaimS_l3, eY]
  all_goals rfl
theorem e_laws_toClaimS (n : Nat) {R1} {a : List Claim} [H1 : EncL cClaim R1 a] : CP T (n + 3) 95 [.imm 5 R1] = (laws_toClaimS a).map fun r => .own 5 (r.map cClaim) := by
  obtain ⟨rfl⟩ := H1
  rw [CP_eq]
  simp -dsimp +contextual only [↓evA, eZ, Nat.reduceAdd, Nat.reduceMul, Nat.reduceBEq, Nat.reduceLeDiff, Nat.reduceLT, Tryz.func95, Tryz.f95, a95, e_laws_toClaimS_l3]
  try simp only [laws_toClaimS, eY]
  all_goals first | rfl | (simp +contextual only [evN] <;> rfl)
theorem e_laws_toTrial (n : Nat) (axClaim : Int) (axAsked : Int) (axRight : Int) (axWrong : Int) : CP T (n + 1) 174 [.agg [.i .i64 axClaim, .i .i64 axAsked, .i .i64 axRight, .i .i64 axWrong]] = (laws_toTrial (⟨axClaim, axAsked, axRight, axWrong⟩ : Trial)).map fun r => .agg (cTrial r) := by
  rw [CP_eq]
  simp -dsimp +contextual only [↓evA, eZ, Nat.reduceAdd, Nat.reduceMul, Nat.reduceBEq, Nat.reduceLeDiff, Nat.reduceLT, Tryz.func174, Tryz.f174, a174]
  try simp only [laws_toTrial, eY]
  all_goals rfl
theorem e_laws_toTrialS_l3 (n : Nat) {R1} {a : List Trial} {R2} {out : List Trial} (i : Int) [H1 : EncL cTrial R1 a] [H2 : EncL cTrial R2 out] : LP T (n + 2) 96 3 (frm [(0, .imm 4 R1), (3, .sl 0), (4, .i .i64 i)]) [some (Ent.lst 4 R2)] =
    (run (laws_toTrialS_l3 a) (out, i)).map (fun (zr : (List Trial)) => (XE.exit 0, frm [(3, .sl 0)], [some (Ent.lst 4 (zr.map cTrial))])) := by
  rcases H1, H2 with ⟨⟨rfl⟩, ⟨rfl⟩⟩
  rw [LP_eq]
  simp -dsimp only [↓evA, evB, lpG_eq, Tryz.func96, Tryz.f96, a96, TP, TZ, Nat.reduceAdd, Nat.reduceMul, Nat.reduceBEq, Nat.reduceLeDiff, Nat.reduceLT]
  refine run_map (fun (zs : (List Trial) × Int) => (frm [(0, .imm 4 (a.map cTrial)), (3, .sl 0), (4, .i .i64 zs.2)], [some (Ent.lst 4 (zs.1.map cTrial))])) (fun (zr : (List Trial)) => (XE.exit 0, frm [(3, .sl 0)], [some (Ent.lst 4 (zr.map cTrial))])) ?_ (out, i)
  rintro ⟨out, i⟩
  simp -dsimp +contextual only [↓evA, eZ, Nat.reduceAdd, Nat.reduceMul, Nat.reduceBEq, Nat.reduceLeDiff, Nat.reduceLT, e_laws_toTrial]
  try simp only [laws_toTrialS_l3, eY]
  all_goals rfl
theorem e_laws_toTrialS (n : Nat) {R1} {a : List Trial} [H1 : EncL cTrial R1 a] : CP T (n + 3) 96 [.imm 4 R1] = (laws_toTrialS a).map fun r => .own 4 (r.map cTrial) := by
  obtain ⟨rfl⟩ := H1
  rw [CP_eq]
  simp -dsimp +contextual only [↓evA, eZ, Nat.reduceAdd, Nat.reduceMul, Nat.reduceBEq, Nat.reduceLeDiff, Nat.reduceLT, Tryz.func96, Tryz.f96, a96, e_laws_toTrialS_l3]
  try simp only [laws_toTrialS, eY]
  all_goals first | rfl | (simp +contextual only [evN] <;> rfl)
theorem e_laws_toHand (n : Nat) (axThing : Int) (axHolder : Int) (axWho : Int) (axAt : Int) (axSeal : Int) : CP T (n + 1) 175 [.agg [.i .i64 axThing, .i .i64 axHolder, .i .i64 axWho, .i .i64 axAt, .i .i64 axSeal]] = (laws_toHand (⟨axThing, axHolder, axWho, axAt, axSeal⟩ : Hand)).map fun r => .agg (cHand r) := by
  rw [CP_eq]
  simp -dsimp +contextual only [↓evA, eZ, Nat.reduceAdd, Nat.reduceMul, Nat.reduceBEq, Nat.reduceLeDiff, Nat.reduceLT, Tryz.func175, Tryz.f175, a175]
  try simp only [laws_toHand, eY]
  all_goals rfl
theorem e_laws_toHandS_l3 (n : Nat) {R1} {a : List Hand} {R2} {out : List Hand} (i : Int) [H1 : EncL cHand R1 a] [H2 : EncL cHand R2 out] : LP T (n + 2) 97 3 (frm [(0, .imm 5 R1), (3, .sl 0), (4, .i .i64 i)]) [some (Ent.lst 5 R2)] =
    (run (laws_toHandS_l3 a) (out, i)).map (fun (zr : (List Hand)) => (XE.exit 0, frm [(3, .sl 0)], [some (Ent.lst 5 (zr.map cHand))])) := by
  rcases H1, H2 with ⟨⟨rfl⟩, ⟨rfl⟩⟩
  rw [LP_eq]
  simp -dsimp only [↓evA, evB, lpG_eq, Tryz.func97, Tryz.f97, a97, TP, TZ, Nat.reduceAdd, Nat.reduceMul, Nat.reduceBEq, Nat.reduceLeDiff, Nat.reduceLT]
  refine run_map (fun (zs : (List Hand) × Int) => (frm [(0, .imm 5 (a.map cHand)), (3, .sl 0), (4, .i .i64 zs.2)], [some (Ent.lst 5 (zs.1.map cHand))])) (fun (zr : (List Hand)) => (XE.exit 0, frm [(3, .sl 0)], [some (Ent.lst 5 (zr.map cHand))])) ?_ (out, i)
  rintro ⟨out, i⟩
  simp -dsimp +contextual only [↓evA, eZ, Nat.reduceAdd, Nat.reduceMul, Nat.reduceBEq, Nat.reduceLeDiff, Nat.reduceLT, e_laws_toHand]
  try simp only [laws_toHandS_l3, eY]
  all_goals rfl
theorem e_laws_toHandS (n : Nat) {R1} {a : List Hand} [H1 : EncL cHand R1 a] : CP T (n + 3) 97 [.imm 5 R1] = (laws_toHandS a).map fun r => .own 5 (r.map cHand) := by
  obtain ⟨rfl⟩ := H1
  rw [CP_eq]
  simp -dsimp +contextual only [↓evA, eZ, Nat.reduceAdd, Nat.reduceMul, Nat.reduceBEq, Nat.reduceLeDiff, Nat.reduceLT, Tryz.func97, Tryz.f97, a97, e_laws_toHandS_l3]
  try simp only [laws_toHandS, eY]
  all_goals first | rfl | (simp +contextual only [evN] <;> rfl)
theorem e_laws_toEntry (n : Nat) (axFrom : Int) (axTo : Int) (axCents : Int) (axAt : Int) : CP T (n + 1) 176 [.agg [.i .i64 axFrom, .i .i64 axTo, .i .i64 axCents, .i .i64 axAt]] = (laws_toEntry (⟨axFrom, axTo, axCents, axAt⟩ : Entry)).map fun r => .agg (cEntry r) := by
  rw [CP_eq]
  simp -dsimp +contextual only [↓evA, eZ, Nat.reduceAdd, Nat.reduceMul, Nat.reduceBEq, Nat.reduceLeDiff, Nat.reduceLT, Tryz.func176, Tryz.f176, a176]
  try simp only [laws_toEntry, eY]
  all_goals rfl
theorem e_laws_toEntryS_l3 (n : Nat) {R1} {a : List Entry} {R2} {out : List Entry} (i : Int) [H1 : EncL cEntry R1 a] [H2 : EncL cEntry R2 out] : LP T (n + 2) 98 3 (frm [(0, .imm 4 R1), (3, .sl 0), (4, .i .i64 i)]) [some (Ent.lst 4 R2)] =
    (run (laws_toEntryS_l3 a) (out, i)).map (fun (zr : (List Entry)) => (XE.exit 0, frm [(3, .sl 0)], [some (Ent.lst 4 (zr.map cEntry))])) := by
  rcases H1, H2 with ⟨⟨rfl⟩, ⟨rfl⟩⟩
  rw [LP_eq]
  simp -dsimp only [↓evA, evB, lpG_eq, Tryz.func98, Tryz.f98, a98, TP, TZ, Nat.reduceAdd, Nat.reduceMul, Nat.reduceBEq, Nat.reduceLeDiff, Nat.reduceLT]
  refine run_map (fun (zs : (List Entry) × Int) => (frm [(0, .imm 4 (a.map cEntry)), (3, .sl 0), (4, .i .i64 zs.2)], [some (Ent.lst 4 (zs.1.map cEntry))])) (fun (zr : (List Entry)) => (XE.exit 0, frm [(3, .sl 0)], [some (Ent.lst 4 (zr.map cEntry))])) ?_ (out, i)
  rintro ⟨out, i⟩
  simp -dsimp +contextual only [↓evA, eZ, Nat.reduceAdd, Nat.reduceMul, Nat.reduceBEq, Nat.reduceLeDiff, Nat.reduceLT, e_laws_toEntry]
  try simp only [laws_toEntryS_l3, eY]
  all_goals rfl
theorem e_laws_toEntryS (n : Nat) {R1} {a : List Entry} [H1 : EncL cEntry R1 a] : CP T (n + 3) 98 [.imm 4 R1] = (laws_toEntryS a).map fun r => .own 4 (r.map cEntry) := by
  obtain ⟨rfl⟩ := H1
  rw [CP_eq]
  simp -dsimp +contextual only [↓evA, eZ, Nat.reduceAdd, Nat.reduceMul, Nat.reduceBEq, Nat.reduceLeDiff, Nat.reduceLT, Tryz.func98, Tryz.f98, a98, e_laws_toEntryS_l3]
  try simp only [laws_toEntryS, eY]
  all_goals first | rfl | (simp +contextual only [evN] <;> rfl)
theorem e_laws_toHouse (n : Nat) (axNo : Int) {R1} {axFinds : List Find} {R2} {axSecrets : List Secret} {R3} {axSlots : List Slot} {R4} {axClaims : List Claim} {R5} {axTrials : List Trial} {R6} {axChain : List Hand} {R7} {axBook : List Entry} (axNow : Int) [H1 : EncL cFind R1 axFinds] [H2 : EncL cSecret R2 axSecrets] [H3 : EncL cSlot R3 axSlots] [H4 : EncL cClaim R4 axClaims] [H5 : EncL cTrial R5 axTrials] [H6 : EncL cHand R6 axChain] [H7 : EncL cEntry R7 axBook] : CP T (n + 7) 24 [.agg [.i .i64 axNo, .imm 8 R1, .imm 3 R2, .imm 3 R3, .imm 5 R4, .imm 4 R5, .imm 5 R6, .imm 4 R7, .i .i64 axNow]] = (laws_toHouse (⟨axNo, axFinds, axSecrets, axSlots, axClaims, axTrials, axChain, axBook, axNow⟩ : House)).map fun r => .agg (cHouseO r) := by
  rcases H1, H2, H3, H4, H5, H6, H7 with ⟨⟨rfl⟩, ⟨rfl⟩, ⟨rfl⟩, ⟨rfl⟩, ⟨rfl⟩, ⟨rfl⟩, ⟨rfl⟩⟩
  rw [CP_eq]
  simp -dsimp +contextual (maxSteps := 100000000) only [↓evA, eZ, Nat.reduceAdd, Nat.reduceMul, Nat.reduceBEq, Nat.reduceLeDiff, Nat.reduceLT, Tryz.func24, Tryz.f24, a24, e_laws_toFindS, e_laws_toSecretS, e_laws_toSlotS, e_laws_toClaimS, e_laws_toTrialS, e_laws_toHandS, e_laws_toEntryS]
  try simp only [laws_toHouse, eY]
  all_goals rfl
theorem e_spec_l31Copy_l3 (n : Nat) {R1} {l : List Secret} {R2} {out : List Secret} (i : Int) [H1 : EncL cSecret R1 l] [H2 : EncL cSecretO R2 out] : LP T (n + 1) 147 3 (frm [(0, .imm 3 R1), (3, .sl 0), (4, .i .i64 i)]) [some (Ent.lst 3 R2)] =
    (run (spec_l31Copy_l3 l) (out, i)).map (fun (zr : (List Secret)) => (XE.exit 0, frm [(3, .sl 0)], [some (Ent.lst 3 (zr.map cSecretO))])) := by
  rcases H1, H2 with ⟨⟨rfl⟩, ⟨rfl⟩⟩
  rw [LP_eq]
  simp -dsimp only [↓evA, evB, lpG_eq, Tryz.func147, Tryz.f147, a147, TP, TZ, Nat.reduceAdd, Nat.reduceMul, Nat.reduceBEq, Nat.reduceLeDiff, Nat.reduceLT]
  refine run_map (fun (zs : (List Secret) × Int) => (frm [(0, .imm 3 (l.map cSecret)), (3, .sl 0), (4, .i .i64 zs.2)], [some (Ent.lst 3 (zs.1.map cSecretO))])) (fun (zr : (List Secret)) => (XE.exit 0, frm [(3, .sl 0)], [some (Ent.lst 3 (zr.map cSecretO))])) ?_ (out, i)
  rintro ⟨out, i⟩
  simp -dsimp +contextual only [↓evA, eZ, Nat.reduceAdd, Nat.reduceMul, Nat.reduceBEq, Nat.reduceLeDiff, Nat.reduceLT]
  try simp only [spec_l31Copy_l3, eY]
  all_goals rfl
theorem e_spec_l31Copy (n : Nat) {R1} {l : List Secret} [H1 : EncL cSecret R1 l] : CP T (n + 2) 147 [.imm 3 R1] = (spec_l31Copy l).map fun r => .own 3 (r.map cSecretO) := by
  obtain ⟨rfl⟩ := H1
  rw [CP_eq]
  simp -dsimp +contextual only [↓evA, eZ, Nat.reduceAdd, Nat.reduceMul, Nat.reduceBEq, Nat.reduceLeDiff, Nat.reduceLT, Tryz.func147, Tryz.f147, a147, e_spec_l31Copy_l3]
  try simp only [spec_l31Copy, eY]
  all_goals first | rfl | (simp +contextual only [evN] <;> rfl)
theorem e_spec_l33Copy (n : Nat) (vhxNo : Int) {R1} {vhxFinds : List Find} {R2} {vhxSecrets : List Secret} {R3} {vhxSlots : List Slot} {R4} {vhxClaims : List Claim} {R5} {vhxTrials : List Trial} {R6} {vhxChain : List Hand} {R7} {vhxBook : List Entry} (vhxNow : Int) [H1 : EncL cFind R1 vhxFinds] [H2 : EncL cSecret R2 vhxSecrets] [H3 : EncL cSlot R3 vhxSlots] [H4 : EncL cClaim R4 vhxClaims] [H5 : EncL cTrial R5 vhxTrials] [H6 : EncL cHand R6 vhxChain] [H7 : EncL cEntry R7 vhxBook] : CP T (n + 3) 59 [.agg [.i .i64 vhxNo, .imm 8 R1, .imm 3 R2, .imm 3 R3, .imm 5 R4, .imm 4 R5, .imm 5 R6, .imm 4 R7, .i .i64 vhxNow]] = (spec_l33Copy (⟨vhxNo, vhxFinds, vhxSecrets, vhxSlots, vhxClaims, vhxTrials, vhxChain, vhxBook, vhxNow⟩ : House)).map fun r => .agg (cHouseO r) := by
  rcases H1, H2, H3, H4, H5, H6, H7 with ⟨⟨rfl⟩, ⟨rfl⟩, ⟨rfl⟩, ⟨rfl⟩, ⟨rfl⟩, ⟨rfl⟩, ⟨rfl⟩⟩
  rw [CP_eq]
  simp -dsimp +contextual (maxSteps := 100000000) only [↓evA, eZ, Nat.reduceAdd, Nat.reduceMul, Nat.reduceBEq, Nat.reduceLeDiff, Nat.reduceLT, Tryz.func59, Tryz.f59, a59, e_spec_l31Copy]
  try simp only [spec_l33Copy, eY]
  all_goals rfl
theorem e_spec_l1In (n : Nat) (x : Int) (least : Int) (most : Int) : CP T (n + 1) 91 [.i .i64 x, .i .i64 least, .i .i64 most] = (spec_l1In x least most).map fun r => .b r := by
  rw [CP_eq]
  simp -dsimp +contextual only [↓evA, eZ, Nat.reduceAdd, Nat.reduceMul, Nat.reduceBEq, Nat.reduceLeDiff, Nat.reduceLT, Tryz.func91, Tryz.f91, a91]
  try simp only [spec_l1In, eY]
  all_goals rfl
theorem e_spec_IsThing (n : Nat) (xxId : Int) (xxKind : Int) (xxColour : Int) (xxSize : Int) (xxWorth : Int) : CP T (n + 2) 208 [.agg [.i .i64 xxId, .i .i64 xxKind, .i .i64 xxColour, .i .i64 xxSize, .i .i64 xxWorth]] = (spec_IsThing (⟨xxId, xxKind, xxColour, xxSize, xxWorth⟩ : Thing)).map fun r => .b r := by
  rw [CP_eq]
  simp -dsimp +contextual only [↓evA, eZ, Nat.reduceAdd, Nat.reduceMul, Nat.reduceBEq, Nat.reduceLeDiff, Nat.reduceLT, Tryz.func208, Tryz.f208, a208, e_spec_l1In]
  try simp only [spec_IsThing, eY]
  all_goals rfl
theorem e_spec_IsFind (n : Nat) (fxThingxId : Int) (fxThingxKind : Int) (fxThingxColour : Int) (fxThingxSize : Int) (fxThingxWorth : Int) (fxPlace : Int) (fxAt : Int) (fxFinder : Int) : CP T (n + 3) 229 [.agg [.i .i64 fxThingxId, .i .i64 fxThingxKind, .i .i64 fxThingxColour, .i .i64 fxThingxSize, .i .i64 fxThingxWorth, .i .i64 fxPlace, .i .i64 fxAt, .i .i64 fxFinder]] = (spec_IsFind (⟨⟨fxThingxId, fxThingxKind, fxThingxColour, fxThingxSize, fxThingxWorth⟩, fxPlace, fxAt, fxFinder⟩ : Find)).map fun r => .b r := by
  rw [CP_eq]
  simp -dsimp +contextual only [↓evA, eZ, Nat.reduceAdd, Nat.reduceMul, Nat.reduceBEq, Nat.reduceLeDiff, Nat.reduceLT, Tryz.func229, Tryz.f229, a229, e_spec_IsThing, e_spec_l1In]
  try simp only [spec_IsFind, eY]
  all_goals rfl
theorem e_spec_AreFinds_l2 (n : Nat) {R1} {l : List Find} (i : Int) [H1 : EncL cFind R1 l] : LP T (n + 4) 148 2 (frm [(0, .imm 8 R1), (3, .i .i64 i)]) [] =
    lmap (run (spec_AreFinds_l2 l) i) (fun (zr : Bool) => (XE.ret, frm [(2, .b zr)], [])) (fun (zr : Unit) => (XE.exit 0, frm [(0, .imm 8 (l.map cFind))], [])) := by
  obtain ⟨rfl⟩ := H1
  rw [LP_eq]
  simp -dsimp only [↓evA, evB, lpG_eq, Tryz.func148, Tryz.f148, a148, TP, TZ, Nat.reduceAdd, Nat.reduceMul, Nat.reduceBEq, Nat.reduceLeDiff, Nat.reduceLT]
  refine run_map (fun (zs : Int) => (frm [(0, .imm 8 (l.map cFind)), (3, .i .i64 zs)], [])) (evO (fun (zr : Bool) => (XE.ret, frm [(2, .b zr)], [])) (fun (zr : Unit) => (XE.exit 0, frm [(0, .imm 8 (l.map cFind))], []))) ?_ i
  intro i
  simp -dsimp +contextual only [↓evA, eZ, Nat.reduceAdd, Nat.reduceMul, Nat.reduceBEq, Nat.reduceLeDiff, Nat.reduceLT, e_spec_IsFind]
  try simp only [spec_AreFinds_l2, eY]
  all_goals rfl
theorem e_spec_AreFinds (n : Nat) {R1} {l : List Find} [H1 : EncL cFind R1 l] : CP T (n + 5) 148 [.imm 8 R1] = (spec_AreFinds l).map fun r => .b r := by
  obtain ⟨rfl⟩ := H1
  rw [CP_eq]
  simp -dsimp +contextual only [↓evA, eZ, Nat.reduceAdd, Nat.reduceMul, Nat.reduceBEq, Nat.reduceLeDiff, Nat.reduceLT, Tryz.func148, Tryz.f148, a148, e_spec_AreFinds_l2]
  try simp only [spec_AreFinds, eY]
  all_goals rfl
theorem e_spec_PutFind_l2 (n : Nat) {R1} {l : List Find} (fxThingxId : Int) (fxThingxKind : Int) (fxThingxColour : Int) (fxThingxSize : Int) (fxThingxWorth : Int) (fxPlace : Int) (fxAt : Int) (fxFinder : Int) (k : Int) [H1 : EncL cFind R1 l] : LP T (n + 1) 129 2 (frm [(0, .imm 8 R1), (3, .ptr 0 0 0), (6, .i .i64 k)]) [some (Ent.box [.i .i64 fxThingxId, .i .i64 fxThingxKind, .i .i64 fxThingxColour, .i .i64 fxThingxSize, .i .i64 fxThingxWorth, .i .i64 fxPlace, .i .i64 fxAt, .i .i64 fxFinder])] =
    (run (spec_PutFind_l2 l (⟨⟨fxThingxId, fxThingxKind, fxThingxColour, fxThingxSize, fxThingxWorth⟩, fxPlace, fxAt, fxFinder⟩ : Find)) k).map (fun (zr : Int) => (XE.exit 0, frm [(0, .imm 8 (l.map cFind)), (3, .ptr 0 0 0), (6, .i .i64 zr)], [some (Ent.box [.i .i64 fxThingxId, .i .i64 fxThingxKind, .i .i64 fxThingxColour, .i .i64 fxThingxSize, .i .i64 fxThingxWorth, .i .i64 fxPlace, .i .i64 fxAt, .i .i64 fxFinder])])) := by
  obtain ⟨rfl⟩ := H1
  rw [LP_eq]
  simp -dsimp only [↓evA, evB, lpG_eq, Tryz.func129, Tryz.f129, a129, TP, TZ, Nat.reduceAdd, Nat.reduceMul, Nat.reduceBEq, Nat.reduceLeDiff, Nat.reduceLT]
  refine run_map (fun (zs : Int) => (frm [(0, .imm 8 (l.map cFind)), (3, .ptr 0 0 0), (6, .i .i64 zs)], [some (Ent.box [.i .i64 fxThingxId, .i .i64 fxThingxKind, .i .i64 fxThingxColour, .i .i64 fxThingxSize, .i .i64 fxThingxWorth, .i .i64 fxPlace, .i .i64 fxAt, .i .i64 fxFinder])])) (fun (zr : Int) => (XE.exit 0, frm [(0, .imm 8 (l.map cFind)), (3, .ptr 0 0 0), (6, .i .i64 zr)], [some (Ent.box [.i .i64 fxThingxId, .i .i64 fxThingxKind, .i .i64 fxThingxColour, .i .i64 fxThingxSize, .i .i64 fxThingxWorth, .i .i64 fxPlace, .i .i64 fxAt, .i .i64 fxFinder])])) ?_ k
  intro k
  simp -dsimp +contextual only [↓evA, eZ, Nat.reduceAdd, Nat.reduceMul, Nat.reduceBEq, Nat.reduceLeDiff, Nat.reduceLT]
  try simp only [spec_PutFind_l2, eY]
  try simp only [List.contains_nil, Bool.not_false, Bool.and_true, e_need_t, List.length_append, List.length_cons, List.length_nil, Nat.zero_add, need_comm, oeq_self]
  all_goals rfl
theorem e_spec_PutFind (n : Nat) {R1} {l : List Find} (fxThingxId : Int) (fxThingxKind : Int) (fxThingxColour : Int) (fxThingxSize : Int) (fxThingxWorth : Int) (fxPlace : Int) (fxAt : Int) (fxFinder : Int) [H1 : EncL cFind R1 l] : CP T (n + 6) 129 [.imm 8 R1, .agg [.i .i64 fxThingxId, .i .i64 fxThingxKind, .i .i64 fxThingxColour, .i .i64 fxThingxSize, .i .i64 fxThingxWorth, .i .i64 fxPlace, .i .i64 fxAt, .i .i64 fxFinder]] = (spec_PutFind l (⟨⟨fxThingxId, fxThingxKind, fxThingxColour, fxThingxSize, fxThingxWorth⟩, fxPlace, fxAt, fxFinder⟩ : Find)).map fun r => .tup [.own 8 (r.1.map cFind), .b r.2] := by
  obtain ⟨rfl⟩ := H1
  rw [CP_eq]
  simp -dsimp +contextual only [↓evA, eZ, Nat.reduceAdd, Nat.reduceMul, Nat.reduceBEq, Nat.reduceLeDiff, Nat.reduceLT, Tryz.func129, Tryz.f129, a129, e_spec_AreFinds, e_spec_PutFind_l2]
  try simp only [spec_PutFind, eY]
  try simp only [List.contains_nil, Bool.not_false, Bool.and_true, e_need_t, List.length_append, List.length_cons, List.length_nil, Nat.zero_add, need_comm, oeq_self]
  all_goals first | rfl | (simp +contextual only [evN] <;> rfl)
theorem e_spec_AreMarks_l2 (n : Nat) {R1} {l : List Mark} (i : Int) [H1 : EncL cMark R1 l] : LP T (n + 2) 188 2 (frm [(0, .imm 2 R1), (3, .i .i64 i)]) [] =
    lmap (run (spec_AreMarks_l2 l) i) (fun (zr : Bool) => (XE.ret, frm [(2, .b zr)], [])) (fun (zr : Unit) => (XE.exit 0, frm [(0, .imm 2 (l.map cMark))], [])) := by
  obtain ⟨rfl⟩ := H1
  rw [LP_eq]
  simp -dsimp only [↓evA, evB, lpG_eq, Tryz.func188, Tryz.f188, a188, TP, TZ, Nat.reduceAdd, Nat.reduceMul, Nat.reduceBEq, Nat.reduceLeDiff, Nat.reduceLT]
  refine run_map (fun (zs : Int) => (frm [(0, .imm 2 (l.map cMark)), (3, .i .i64 zs)], [])) (evO (fun (zr : Bool) => (XE.ret, frm [(2, .b zr)], [])) (fun (zr : Unit) => (XE.exit 0, frm [(0, .imm 2 (l.map cMark))], []))) ?_ i
  intro i
  simp -dsimp +contextual only [↓evA, eZ, Nat.reduceAdd, Nat.reduceMul, Nat.reduceBEq, Nat.reduceLeDiff, Nat.reduceLT, e_spec_l1In]
  try simp only [spec_AreMarks_l2, eY]
  all_goals rfl
theorem e_spec_AreMarks (n : Nat) {R1} {l : List Mark} [H1 : EncL cMark R1 l] : CP T (n + 3) 188 [.imm 2 R1] = (spec_AreMarks l).map fun r => .b r := by
  obtain ⟨rfl⟩ := H1
  rw [CP_eq]
  simp -dsimp +contextual only [↓evA, eZ, Nat.reduceAdd, Nat.reduceMul, Nat.reduceBEq, Nat.reduceLeDiff, Nat.reduceLT, Tryz.func188, Tryz.f188, a188, e_spec_AreMarks_l2]
  try simp only [spec_AreMarks, eY]
  all_goals rfl
theorem e_spec_AreSecrets_l2 (n : Nat) {R1} {l : List Secret} (t3 : Int) [H1 : EncL cSecret R1 l] : LP T (n + 4) 149 2 (frm [(0, .imm 3 R1), (3, .i .i64 t3)]) [] =
    lmap (run (spec_AreSecrets_l2 l) t3) (fun (zr : Bool) => (XE.ret, frm [(2, .b zr)], [])) (fun (zr : Unit) => (XE.exit 0, frm [(0, .imm 3 (l.map cSecret))], [])) := by
  obtain ⟨rfl⟩ := H1
  rw [LP_eq]
  simp -dsimp only [↓evA, evB, lpG_eq, Tryz.func149, Tryz.f149, a149, TP, TZ, Nat.reduceAdd, Nat.reduceMul, Nat.reduceBEq, Nat.reduceLeDiff, Nat.reduceLT]
  refine run_map (fun (zs : Int) => (frm [(0, .imm 3 (l.map cSecret)), (3, .i .i64 zs)], [])) (evO (fun (zr : Bool) => (XE.ret, frm [(2, .b zr)], [])) (fun (zr : Unit) => (XE.exit 0, frm [(0, .imm 3 (l.map cSecret))], []))) ?_ t3
  intro t3
  simp -dsimp +contextual only [↓evA, eZ, Nat.reduceAdd, Nat.reduceMul, Nat.reduceBEq, Nat.reduceLeDiff, Nat.reduceLT, e_spec_l1In, e_spec_AreMarks]
  try simp only [spec_AreSecrets_l2, eY]
  all_goals rfl
theorem e_spec_AreSecrets (n : Nat) {R1} {l : List Secret} [H1 : EncL cSecret R1 l] : CP T (n + 5) 149 [.imm 3 R1] = (spec_AreSecrets l).map fun r => .b r := by
  obtain ⟨rfl⟩ := H1
  rw [CP_eq]
  simp -dsimp +contextual only [↓evA, eZ, Nat.reduceAdd, Nat.reduceMul, Nat.reduceBEq, Nat.reduceLeDiff, Nat.reduceLT, Tryz.func149, Tryz.f149, a149, e_spec_AreSecrets_l2]
  try simp only [spec_AreSecrets, eY]
  all_goals rfl
theorem e_spec_PutSecret_l2 (n : Nat) {R1} {l : List Secret} (xxThing : Int) {R2} {xxMarks : List Mark} (xxSalt : Int) (k : Int) [H1 : EncL cSecret R1 l] [H2 : EncL cMark R2 xxMarks] : LP T (n + 1) 130 2 (frm [(0, .imm 3 R1), (3, .ptr 0 0 0), (6, .i .i64 k)]) [some (Ent.box [.i .i64 xxThing, .imm 2 R2, .i .i64 xxSalt])] =
    (run (spec_PutSecret_l2 l (⟨xxThing, xxMarks, xxSalt⟩ : Secret)) k).map (fun (zr : Int) => (XE.exit 0, frm [(0, .imm 3 (l.map cSecret)), (3, .ptr 0 0 0), (6, .i .i64 zr)], [some (Ent.box [.i .i64 xxThing, .imm 2 (xxMarks.map cMark), .i .i64 xxSalt])])) := by
  rcases H1, H2 with ⟨⟨rfl⟩, ⟨rfl⟩⟩
  rw [LP_eq]
  simp -dsimp only [↓evA, evB, lpG_eq, Tryz.func130, Tryz.f130, a130, TP, TZ, Nat.reduceAdd, Nat.reduceMul, Nat.reduceBEq, Nat.reduceLeDiff, Nat.reduceLT]
  refine run_map (fun (zs : Int) => (frm [(0, .imm 3 (l.map cSecret)), (3, .ptr 0 0 0), (6, .i .i64 zs)], [some (Ent.box [.i .i64 xxThing, .imm 2 (xxMarks.map cMark), .i .i64 xxSalt])])) (fun (zr : Int) => (XE.exit 0, frm [(0, .imm 3 (l.map cSecret)), (3, .ptr 0 0 0), (6, .i .i64 zr)], [some (Ent.box [.i .i64 xxThing, .imm 2 (xxMarks.map cMark), .i .i64 xxSalt])])) ?_ k
  intro k
  simp -dsimp +contextual only [↓evA, eZ, Nat.reduceAdd, Nat.reduceMul, Nat.reduceBEq, Nat.reduceLeDiff, Nat.reduceLT]
  try simp only [spec_PutSecret_l2, eY]
  try simp only [List.contains_nil, Bool.not_false, Bool.and_true, e_need_t, List.length_append, List.length_cons, List.length_nil, Nat.zero_add, need_comm, oeq_self]
  all_goals rfl
theorem e_spec_PutSecret (n : Nat) {R1} {l : List Secret} (xxThing : Int) {R2} {xxMarks : List Mark} (xxSalt : Int) [H1 : EncL cSecret R1 l] [H2 : EncL cMark R2 xxMarks] : CP T (n + 6) 130 [.imm 3 R1, .agg [.i .i64 xxThing, .imm 2 R2, .i .i64 xxSalt]] = (spec_PutSecret l (⟨xxThing, xxMarks, xxSalt⟩ : Secret)).map fun r => .tup [.own 3 (r.1.map cSecretO), .b r.2] := by
  rcases H1, H2 with ⟨⟨rfl⟩, ⟨rfl⟩⟩
  rw [CP_eq]
  simp -dsimp +contextual only [↓evA, eZ, Nat.reduceAdd, Nat.reduceMul, Nat.reduceBEq, Nat.reduceLeDiff, Nat.reduceLT, Tryz.func130, Tryz.f130, a130, e_spec_l31Copy, e_spec_AreSecrets, e_spec_PutSecret_l2]
  try simp only [spec_PutSecret, eY]
  try simp only [List.contains_nil, Bool.not_false, Bool.and_true, e_need_t, List.length_append, List.length_cons, List.length_nil, Nat.zero_add, need_comm, oeq_self]
  all_goals first | rfl | (simp +contextual only [evN] <;> rfl)
theorem e_spec_SmallestFree_l3 (n : Nat) {R1} {l : List Slot} (size : Int) (k : Int) (i : Int) [H1 : EncL cSlot R1 l] : LP T (n + 1) 216 3 (frm [(0, .imm 3 R1), (1, .i .i64 size), (5, .i .i64 k), (6, .i .i64 i)]) [] =
    (run (spec_SmallestFree_l3 l size) (k, i)).map (fun (zr : Int) => (XE.exit 0, frm [(0, .imm 3 (l.map cSlot)), (5, .i .i64 zr)], [])) := by
  obtain ⟨rfl⟩ := H1
  rw [LP_eq]
  simp -dsimp only [↓evA, evB, lpG_eq, Tryz.func216, Tryz.f216, a216, TP, TZ, Nat.reduceAdd, Nat.reduceMul, Nat.reduceBEq, Nat.reduceLeDiff, Nat.reduceLT]
  refine run_map (fun (zs : Int × Int) => (frm [(0, .imm 3 (l.map cSlot)), (1, .i .i64 size), (5, .i .i64 zs.1), (6, .i .i64 zs.2)], [])) (fun (zr : Int) => (XE.exit 0, frm [(0, .imm 3 (l.map cSlot)), (5, .i .i64 zr)], [])) ?_ (k, i)
  rintro ⟨k, i⟩
  simp -dsimp +contextual only [↓evA, eZ, Nat.reduceAdd, Nat.reduceMul, Nat.reduceBEq, Nat.reduceLeDiff, Nat.reduceLT]
  try simp only [spec_SmallestFree_l3, eY]
  all_goals rfl
theorem e_spec_SmallestFree (n : Nat) {R1} {l : List Slot} (size : Int) [H1 : EncL cSlot R1 l] : CP T (n + 2) 216 [.imm 3 R1, .i .i64 size] = (spec_SmallestFree l size).map fun r => .i .i64 r := by
  obtain ⟨rfl⟩ := H1
  rw [CP_eq]
  simp -dsimp +contextual only [↓evA, eZ, Nat.reduceAdd, Nat.reduceMul, Nat.reduceBEq, Nat.reduceLeDiff, Nat.reduceLT, Tryz.func216, Tryz.f216, a216, e_spec_SmallestFree_l3]
  try simp only [spec_SmallestFree, eY]
  all_goals rfl
theorem e_spec_AreSlots_l7 (n : Nat) {R1} {l : List Slot} (t3 : Int) (t4 : Int) [H1 : EncL cSlot R1 l] : LP T (n + 1) 150 7 (frm [(0, .imm 3 R1), (3, .i .i64 t3), (4, .i .i64 t4)]) [] =
    lmap (run (spec_AreSlots_l7 l t3) t4) (fun (zr : Bool) => (XE.ret, frm [(2, .b zr)], [])) (fun (zr : Unit) => (XE.exit 2, frm [(0, .imm 3 (l.map cSlot)), (3, .i .i64 t3)], [])) := by
  obtain ⟨rfl⟩ := H1
  rw [LP_eq]
  simp -dsimp only [↓evA, evB, lpG_eq, Tryz.func150, Tryz.f150, a150, TP, TZ, Nat.reduceAdd, Nat.reduceMul, Nat.reduceBEq, Nat.reduceLeDiff, Nat.reduceLT]
  refine run_map (fun (zs : Int) => (frm [(0, .imm 3 (l.map cSlot)), (3, .i .i64 t3), (4, .i .i64 zs)], [])) (evO (fun (zr : Bool) => (XE.ret, frm [(2, .b zr)], [])) (fun (zr : Unit) => (XE.exit 2, frm [(0, .imm 3 (l.map cSlot)), (3, .i .i64 t3)], []))) ?_ t4
  intro t4
  simp -dsimp +contextual only [↓evA, eZ, Nat.reduceAdd, Nat.reduceMul, Nat.reduceBEq, Nat.reduceLeDiff, Nat.reduceLT]
  try simp only [spec_AreSlots_l7, eY]
  all_goals rfl
theorem e_spec_AreSlots_l2 (n : Nat) {R1} {l : List Slot} (t3 : Int) [H1 : EncL cSlot R1 l] : LP T (n + 2) 150 2 (frm [(0, .imm 3 R1), (3, .i .i64 t3)]) [] =
    lmap (run (spec_AreSlots_l2 l) t3) (fun (zr : Bool) => (XE.ret, frm [(2, .b zr)], [])) (fun (zr : Unit) => (XE.exit 0, frm [(0, .imm 3 (l.map cSlot))], [])) := by
  obtain ⟨rfl⟩ := H1
  rw [LP_eq]
  simp -dsimp only [↓evA, evB, lpG_eq, Tryz.func150, Tryz.f150, a150, TP, TZ, Nat.reduceAdd, Nat.reduceMul, Nat.reduceBEq, Nat.reduceLeDiff, Nat.reduceLT]
  refine run_map (fun (zs : Int) => (frm [(0, .imm 3 (l.map cSlot)), (3, .i .i64 zs)], [])) (evO (fun (zr : Bool) => (XE.ret, frm [(2, .b zr)], [])) (fun (zr : Unit) => (XE.exit 0, frm [(0, .imm 3 (l.map cSlot))], []))) ?_ t3
  intro t3
  simp -dsimp +contextual only [↓evA, eZ, Nat.reduceAdd, Nat.reduceMul, Nat.reduceBEq, Nat.reduceLeDiff, Nat.reduceLT, e_spec_l1In, e_spec_AreSlots_l7]
  try simp only [spec_AreSlots_l2, eY]
  all_goals rfl
theorem e_spec_AreSlots (n : Nat) {R1} {l : List Slot} [H1 : EncL cSlot R1 l] : CP T (n + 3) 150 [.imm 3 R1] = (spec_AreSlots l).map fun r => .b r := by
  obtain ⟨rfl⟩ := H1
  rw [CP_eq]
  simp -dsimp +contextual only [↓evA, eZ, Nat.reduceAdd, Nat.reduceMul, Nat.reduceBEq, Nat.reduceLeDiff, Nat.reduceLT, Tryz.func150, Tryz.f150, a150, e_spec_AreSlots_l2]
  try simp only [spec_AreSlots, eY]
  all_goals rfl
theorem e_spec_SlotOf_l2 (n : Nat) {R1} {l : List Slot} (thing : Int) (i : Int) [H1 : EncL cSlot R1 l] : LP T (n + 1) 112 2 (frm [(0, .imm 3 R1), (1, .i .i64 thing), (5, .i .i64 i)]) [] =
    lmap (run (spec_SlotOf_l2 l thing) i) (fun (zr : Int) => (XE.ret, frm [(4, .i .i64 zr)], [])) (fun (zr : Unit) => (XE.exit 0, frm [], [])) := by
  obtain ⟨rfl⟩ := H1
  rw [LP_eq]
  simp -dsimp only [↓evA, evB, lpG_eq, Tryz.func112, Tryz.f112, a112, TP, TZ, Nat.reduceAdd, Nat.reduceMul, Nat.reduceBEq, Nat.reduceLeDiff, Nat.reduceLT]
  refine run_map (fun (zs : Int) => (frm [(0, .imm 3 (l.map cSlot)), (1, .i .i64 thing), (5, .i .i64 zs)], [])) (evO (fun (zr : Int) => (XE.ret, frm [(4, .i .i64 zr)], [])) (fun (zr : Unit) => (XE.exit 0, frm [], []))) ?_ i
  intro i
  simp -dsimp +contextual only [↓evA, eZ, Nat.reduceAdd, Nat.reduceMul, Nat.reduceBEq, Nat.reduceLeDiff, Nat.reduceLT]
  try simp only [spec_SlotOf_l2, eY]
  all_goals rfl
theorem e_spec_SlotOf (n : Nat) {R1} {l : List Slot} (thing : Int) [H1 : EncL cSlot R1 l] : CP T (n + 2) 112 [.imm 3 R1, .i .i64 thing] = (spec_SlotOf l thing).map fun r => .i .i64 r := by
  obtain ⟨rfl⟩ := H1
  rw [CP_eq]
  simp -dsimp +contextual only [↓evA, eZ, Nat.reduceAdd, Nat.reduceMul, Nat.reduceBEq, Nat.reduceLeDiff, Nat.reduceLT, Tryz.func112, Tryz.f112, a112, e_spec_SlotOf_l2]
  try simp only [spec_SlotOf, eY]
  all_goals rfl
theorem e_spec_PutAway_l6 (n : Nat) (xxId : Int) (xxKind : Int) (xxColour : Int) (xxSize : Int) (xxWorth : Int) {R1} {out : List Slot} (s : Int) (i : Int) [H1 : EncL cSlot R1 out] : LP T (n + 1) 131 6 (frm [(3, .ptr 0 0 0), (6, .sl 1), (7, .i .i64 s), (8, .i .i64 i)]) [some (Ent.box [.i .i64 xxId, .i .i64 xxKind, .i .i64 xxColour, .i .i64 xxSize, .i .i64 xxWorth]), some (Ent.lst 3 R1)] =
    (run (spec_PutAway_l6 (⟨xxId, xxKind, xxColour, xxSize, xxWorth⟩ : Thing) s) (out, i)).map (fun (zr : (List Slot)) => (XE.exit 0, frm [(6, .sl 0)], [some (Ent.lst 3 (zr.map cSlot))])) := by
  obtain ⟨rfl⟩ := H1
  rw [LP_eq]
  simp -dsimp only [↓evA, evB, lpG_eq, Tryz.func131, Tryz.f131, a131, TP, TZ, Nat.reduceAdd, Nat.reduceMul, Nat.reduceBEq, Nat.reduceLeDiff, Nat.reduceLT]
  refine run_map (fun (zs : (List Slot) × Int) => (frm [(3, .ptr 0 0 0), (6, .sl 1), (7, .i .i64 s), (8, .i .i64 zs.2)], [some (Ent.box [.i .i64 xxId, .i .i64 xxKind, .i .i64 xxColour, .i .i64 xxSize, .i .i64 xxWorth]), some (Ent.lst 3 (zs.1.map cSlot))])) (fun (zr : (List Slot)) => (XE.exit 0, frm [(6, .sl 0)], [some (Ent.lst 3 (zr.map cSlot))])) ?_ (out, i)
  rintro ⟨out, i⟩
  simp -dsimp +contextual only [↓evA, eZ, Nat.reduceAdd, Nat.reduceMul, Nat.reduceBEq, Nat.reduceLeDiff, Nat.reduceLT]
  try simp only [spec_PutAway_l6, eY]
  all_goals rfl
theorem e_spec_PutAway (n : Nat) {R1} {l : List Slot} (xxId : Int) (xxKind : Int) (xxColour : Int) (xxSize : Int) (xxWorth : Int) [H1 : EncL cSlot R1 l] : CP T (n + 4) 131 [.imm 3 R1, .agg [.i .i64 xxId, .i .i64 xxKind, .i .i64 xxColour, .i .i64 xxSize, .i .i64 xxWorth]] = (spec_PutAway l (⟨xxId, xxKind, xxColour, xxSize, xxWorth⟩ : Thing)).map fun r => .tup [.own 3 (r.1.map cSlot), .b r.2] := by
  obtain ⟨rfl⟩ := H1
  rw [CP_eq]
  simp -dsimp +contextual only [↓evA, eZ, Nat.reduceAdd, Nat.reduceMul, Nat.reduceBEq, Nat.reduceLeDiff, Nat.reduceLT, Tryz.func131, Tryz.f131, a131, e_spec_SmallestFree, e_spec_AreSlots, e_spec_IsThing, e_spec_SlotOf, e_spec_PutAway_l6]
  try simp only [spec_PutAway, eY]
  all_goals first | rfl | (simp +contextual only [evN] <;> rfl)
theorem e_spec_Mod (n : Nat) (vn : Int) (m : Int) : CP T (n + 2) 267 [.i .i64 vn, .i .i64 m] = (spec_Mod vn m).map fun r => .i .i64 r := by
  rw [CP_eq]
  simp -dsimp +contextual only [↓evA, eZ, Nat.reduceAdd, Nat.reduceMul, Nat.reduceBEq, Nat.reduceLeDiff, Nat.reduceLT, Tryz.func267, Tryz.f267, a267, e_spec_l1In]
  try simp only [spec_Mod, eY]
  all_goals rfl
theorem e_spec_Hash_l3 (n : Nat) {R1} {l : List Int} (d : Int) (i : Int) [H1 : EncL c_i64 R1 l] : LP T (n + 3) 251 3 (frm [(0, .imm 1 R1), (3, .i .i64 d), (4, .i .i64 i)]) [] =
    (run (spec_Hash_l3 l) (d, i)).map (fun (zr : Int) => (XE.exit 0, frm [(3, .i .i64 zr)], [])) := by
  obtain ⟨rfl⟩ := H1
  rw [LP_eq]
  simp -dsimp only [↓evA, evB, lpG_eq, Tryz.func251, Tryz.f251, a251, TP, TZ, Nat.reduceAdd, Nat.reduceMul, Nat.reduceBEq, Nat.reduceLeDiff, Nat.reduceLT]
  refine run_map (fun (zs : Int × Int) => (frm [(0, .imm 1 (l.map c_i64)), (3, .i .i64 zs.1), (4, .i .i64 zs.2)], [])) (fun (zr : Int) => (XE.exit 0, frm [(3, .i .i64 zr)], [])) ?_ (d, i)
  rintro ⟨d, i⟩
  simp -dsimp +contextual only [↓evA, eZ, Nat.reduceAdd, Nat.reduceMul, Nat.reduceBEq, Nat.reduceLeDiff, Nat.reduceLT, e_spec_Mod]
  try simp only [spec_Hash_l3, eY]
  all_goals rfl
theorem e_spec_Hash (n : Nat) {R1} {l : List Int} [H1 : EncL c_i64 R1 l] : CP T (n + 4) 251 [.imm 1 R1] = (spec_Hash l).map fun r => .i .i64 r := by
  obtain ⟨rfl⟩ := H1
  rw [CP_eq]
  simp -dsimp +contextual only [↓evA, eZ, Nat.reduceAdd, Nat.reduceMul, Nat.reduceBEq, Nat.reduceLeDiff, Nat.reduceLT, Tryz.func251, Tryz.f251, a251, e_spec_Hash_l3]
  try simp only [spec_Hash, eY]
  all_goals rfl
theorem e_spec_HandSeal (n : Nat) (before : Int) (xxThing : Int) (xxHolder : Int) (xxWho : Int) (xxAt : Int) (xxSeal : Int) : CP T (n + 5) 217 [.i .i64 before, .agg [.i .i64 xxThing, .i .i64 xxHolder, .i .i64 xxWho, .i .i64 xxAt, .i .i64 xxSeal]] = (spec_HandSeal before (⟨xxThing, xxHolder, xxWho, xxAt, xxSeal⟩ : Hand)).map fun r => .i .i64 r := by
  rw [CP_eq]
  simp -dsimp +contextual only [↓evA, eZ, Nat.reduceAdd, Nat.reduceMul, Nat.reduceBEq, Nat.reduceLeDiff, Nat.reduceLT, Tryz.func217, Tryz.f217, a217, e_spec_Hash]
  try simp only [spec_HandSeal, eY]
  all_goals rfl
theorem e_spec_l16Last_l3 (n : Nat) {R1} {l : List Hand} (thing : Int) (before : Int) (k : Int) (i : Int) [H1 : EncL cHand R1 l] : LP T (n + 1) 230 3 (frm [(0, .imm 5 R1), (1, .i .i64 thing), (2, .i .i64 before), (7, .i .i64 k), (8, .i .i64 i)]) [] =
    (run (spec_l16Last_l3 l thing before) (k, i)).map (fun (zr : Int) => (XE.exit 0, frm [(7, .i .i64 zr)], [])) := by
  obtain ⟨rfl⟩ := H1
  rw [LP_eq]
  simp -dsimp only [↓evA, evB, lpG_eq, Tryz.func230, Tryz.f230, a230, TP, TZ, Nat.reduceAdd, Nat.reduceMul, Nat.reduceBEq, Nat.reduceLeDiff, Nat.reduceLT]
  refine run_map (fun (zs : Int × Int) => (frm [(0, .imm 5 (l.map cHand)), (1, .i .i64 thing), (2, .i .i64 before), (7, .i .i64 zs.1), (8, .i .i64 zs.2)], [])) (fun (zr : Int) => (XE.exit 0, frm [(7, .i .i64 zr)], [])) ?_ (k, i)
  rintro ⟨k, i⟩
  simp -dsimp +contextual only [↓evA, eZ, Nat.reduceAdd, Nat.reduceMul, Nat.reduceBEq, Nat.reduceLeDiff, Nat.reduceLT]
  try simp only [spec_l16Last_l3, eY]
  all_goals rfl
theorem e_spec_l16Last (n : Nat) {R1} {l : List Hand} (thing : Int) (before : Int) [H1 : EncL cHand R1 l] : CP T (n + 2) 230 [.imm 5 R1, .i .i64 thing, .i .i64 before] = (spec_l16Last l thing before).map fun r => .i .i64 r := by
  obtain ⟨rfl⟩ := H1
  rw [CP_eq]
  simp -dsimp +contextual only [↓evA, eZ, Nat.reduceAdd, Nat.reduceMul, Nat.reduceBEq, Nat.reduceLeDiff, Nat.reduceLT, Tryz.func230, Tryz.f230, a230, e_spec_l16Last_l3]
  try simp only [spec_l16Last, eY]
  all_goals rfl
theorem e_spec_IsChain_l3 (n : Nat) {R1} {l : List Hand} (t3 : Int) (t4 : Int) [H1 : EncL cHand R1 l] : LP T (n + 6) 152 3 (frm [(0, .imm 5 R1), (3, .i .i64 t3), (4, .i .i64 t4)]) [] =
    lmap (run (spec_IsChain_l3 l) (t3, t4)) (fun (zr : Bool) => (XE.ret, frm [(2, .b zr)], [])) (fun (zr : Unit) => (XE.exit 0, frm [(0, .imm 5 (l.map cHand))], [])) := by
  obtain ⟨rfl⟩ := H1
  rw [LP_eq]
  simp -dsimp only [↓evA, evB, lpG_eq, Tryz.func152, Tryz.f152, a152, TP, TZ, Nat.reduceAdd, Nat.reduceMul, Nat.reduceBEq, Nat.reduceLeDiff, Nat.reduceLT]
  refine run_map (fun (zs : Int × Int) => (frm [(0, .imm 5 (l.map cHand)), (3, .i .i64 zs.1), (4, .i .i64 zs.2)], [])) (evO (fun (zr : Bool) => (XE.ret, frm [(2, .b zr)], [])) (fun (zr : Unit) => (XE.exit 0, frm [(0, .imm 5 (l.map cHand))], []))) ?_ (t3, t4)
  rintro ⟨t3, t4⟩
  simp -dsimp +contextual only [↓evA, eZ, Nat.reduceAdd, Nat.reduceMul, Nat.reduceBEq, Nat.reduceLeDiff, Nat.reduceLT, e_spec_HandSeal, e_spec_l1In, e_spec_l16Last]
  try simp only [spec_IsChain_l3, eY]
  all_goals rfl
theorem e_spec_IsChain (n : Nat) {R1} {l : List Hand} [H1 : EncL cHand R1 l] : CP T (n + 7) 152 [.imm 5 R1] = (spec_IsChain l).map fun r => .b r := by
  obtain ⟨rfl⟩ := H1
  rw [CP_eq]
  simp -dsimp +contextual only [↓evA, eZ, Nat.reduceAdd, Nat.reduceMul, Nat.reduceBEq, Nat.reduceLeDiff, Nat.reduceLT, Tryz.func152, Tryz.f152, a152, e_spec_IsChain_l3]
  try simp only [spec_IsChain, eY]
  all_goals rfl
end Go.Proofs.YtcdffihcfeajfaaGreat
