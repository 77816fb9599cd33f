/- The functions of the program come to the typed ones. No condition. -/
import Derived.Test.YtcdffihcfeajfaaGreatEq3
namespace Go.Proofs.YtcdffihcfeajfaaGreat
open Go Go.Proofs Go.Proofs.YtcdffihcfeajfaaGreat.Am
set_option maxHeartbeats 4000000
set_option linter.unusedVariables false
set_option linter.unusedSimpArgs false
set_option linter.defProp false
set_option maxRecDepth 100000
theorem e_laws_markFindS (n : Nat) {R1} {a : List Find} (a2 : Int) [H1 : EncL cFind R1 a] : CA T (n + 2) 72 [some (Ent.lst 8 R1)] [.sl 0, .i .i64 a2] = (laws_markFindS a a2).map fun r => (.i .i64 r.2, [some (Ent.lst 8 (r.1.map cFind))]) := by
  obtain ⟨rfl⟩ := H1
  rw [CA_eq]
  simp -dsimp +contextual only [↓evA, eZ, Nat.reduceAdd, Nat.reduceMul, Nat.reduceBEq, Nat.reduceLeDiff, Nat.reduceLT, Tryz.func72, Tryz.f72, a72, e_laws_markFindS_l2]
  try simp only [laws_markFindS, eY]
  all_goals rfl
theorem e_laws_markMarkS_l2 (n : Nat) {R1} {a : List Mark} (k : Int) (i : Int) [H1 : EncL cMark R1 a] : LP T (n + 1) 40 2 (frm [(0, .sl 0), (1, .i .i64 k), (5, .i .i64 i)]) [some (Ent.lst 2 R1)] =
    (run laws_markMarkS_l2 (a, k, i)).map (fun (zr : (List Mark) × Int) => (XE.exit 0, frm [(0, .sl 0), (1, .i .i64 zr.2)], [some (Ent.lst 2 (zr.1.map cMark))])) := by
  obtain ⟨rfl⟩ := H1
  rw [LP_eq]
  simp -dsimp only [↓evA, evB, lpG_eq, Tryz.func40, Tryz.f40, a40, TP, TZ, Nat.reduceAdd, Nat.reduceMul, Nat.reduceBEq, Nat.reduceLeDiff, Nat.reduceLT]
  refine run_map (fun (zs : (List Mark) × Int × Int) => (frm [(0, .sl 0), (1, .i .i64 zs.2.1), (5, .i .i64 zs.2.2)], [some (Ent.lst 2 (zs.1.map cMark))])) (fun (zr : (List Mark) × Int) => (XE.exit 0, frm [(0, .sl 0), (1, .i .i64 zr.2)], [some (Ent.lst 2 (zr.1.map cMark))])) ?_ (a, k, i)
  rintro ⟨a, k, i⟩
  simp -dsimp +contextual only [↓evA, eZ, Nat.reduceAdd, Nat.reduceMul, Nat.reduceBEq, Nat.reduceLeDiff, Nat.reduceLT]
  try simp only [laws_markMarkS_l2, eY]
  all_goals rfl
theorem e_laws_markMarkS (n : Nat) {R1} {a : List Mark} (k : Int) [H1 : EncL cMark R1 a] : CA T (n + 2) 40 [some (Ent.lst 2 R1)] [.sl 0, .i .i64 k] = (laws_markMarkS a k).map fun r => (.i .i64 r.2, [some (Ent.lst 2 (r.1.map cMark))]) := by
  obtain ⟨rfl⟩ := H1
  rw [CA_eq]
  simp -dsimp +contextual only [↓evA, eZ, Nat.reduceAdd, Nat.reduceMul, Nat.reduceBEq, Nat.reduceLeDiff, Nat.reduceLT, Tryz.func40, Tryz.f40, a40, e_laws_markMarkS_l2]
  try simp only [laws_markMarkS, eY]
  all_goals rfl
theorem e_laws_markSecretS_l2 (n : Nat) {R1} {a : List Secret} (k : Int) (i : Int) [H1 : EncL cSecretO R1 a] : LP T (n + 3) 73 2 (frm [(0, .sl 0), (1, .i .i64 k), (5, .i .i64 i)]) [some (Ent.lst 3 R1)] =
    (run laws_markSecretS_l2 (a, k, i)).map (fun (zr : (List Secret) × Int) => (XE.exit 0, frm [(0, .sl 0), (1, .i .i64 zr.2)], [some (Ent.lst 3 (zr.1.map cSecretO))])) := by
  obtain ⟨rfl⟩ := H1
  rw [LP_eq]
  simp -dsimp only [↓evA, evB, lpG_eq, Tryz.func73, Tryz.f73, a73, TP, TZ, Nat.reduceAdd, Nat.reduceMul, Nat.reduceBEq, Nat.reduceLeDiff, Nat.reduceLT]
  refine run_map (fun (zs : (List Secret) × Int × Int) => (frm [(0, .sl 0), (1, .i .i64 zs.2.1), (5, .i .i64 zs.2.2)], [some (Ent.lst 3 (zs.1.map cSecretO))])) (fun (zr : (List Secret) × Int) => (XE.exit 0, frm [(0, .sl 0), (1, .i .i64 zr.2)], [some (Ent.lst 3 (zr.1.map cSecretO))])) ?_ (a, k, i)
  rintro ⟨a, k, i⟩
  simp -dsimp +contextual only [↓evA, eZ, Nat.reduceAdd, Nat.reduceMul, Nat.reduceBEq, Nat.reduceLeDiff, Nat.reduceLT, srt, e_laws_markMarkS]
  try simp only [laws_markSecretS_l2, eY]
  all_goals rfl
theorem e_laws_markSecretS (n : Nat) {R1} {a : List Secret} (k : Int) [H1 : EncL cSecretO R1 a] : CA T (n + 4) 73 [some (Ent.lst 3 R1)] [.sl 0, .i .i64 k] = (laws_markSecretS a k).map fun r => (.i .i64 r.2, [some (Ent.lst 3 (r.1.map cSecretO))]) := by
  obtain ⟨rfl⟩ := H1
  rw [CA_eq]
  simp -dsimp +contextual only [↓evA, eZ, Nat.reduceAdd, Nat.reduceMul, Nat.reduceBEq, Nat.reduceLeDiff, Nat.reduceLT, Tryz.func73, Tryz.f73, a73, srt, e_laws_markSecretS_l2]
  try simp only [laws_markSecretS, eY]
  all_goals rfl
theorem e_laws_markSlotS_l2 (n : Nat) {R1} {a : List Slot} (k : Int) (i : Int) [H1 : EncL cSlot R1 a] : LP T (n + 1) 19 2 (frm [(0, .sl 0), (1, .i .i64 k), (5, .i .i64 i)]) [some (Ent.lst 3 R1)] =
    (run laws_markSlotS_l2 (a, k, i)).map (fun (zr : (List Slot) × Int) => (XE.exit 0, frm [(0, .sl 0), (1, .i .i64 zr.2)], [some (Ent.lst 3 (zr.1.map cSlot))])) := by
  obtain ⟨rfl⟩ := H1
  rw [LP_eq]
  simp -dsimp only [↓evA, evB, lpG_eq, Tryz.func19, Tryz.f19, a19, TP, TZ, Nat.reduceAdd, Nat.reduceMul, Nat.reduceBEq, Nat.reduceLeDiff, Nat.reduceLT]
  refine run_map (fun (zs : (List Slot) × Int × Int) => (frm [(0, .sl 0), (1, .i .i64 zs.2.1), (5, .i .i64 zs.2.2)], [some (Ent.lst 3 (zs.1.map cSlot))])) (fun (zr : (List Slot) × Int) => (XE.exit 0, frm [(0, .sl 0), (1, .i .i64 zr.2)], [some (Ent.lst 3 (zr.1.map cSlot))])) ?_ (a, k, i)
  rintro ⟨a, k, i⟩
  simp -dsimp +contextual only [↓evA, eZ, Nat.reduceAdd, Nat.reduceMul, Nat.reduceBEq, Nat.reduceLeDiff, Nat.reduceLT]
  try simp only [laws_markSlotS_l2, eY]
  all_goals rfl
theorem e_laws_markSlotS (n : Nat) {R1} {a : List Slot} (k : Int) [H1 : EncL cSlot R1 a] : CA T (n + 2) 19 [some (Ent.lst 3 R1)] [.sl 0, .i .i64 k] = (laws_markSlotS a k).map fun r => (.i .i64 r.2, [some (Ent.lst 3 (r.1.map cSlot))]) := by
  obtain ⟨rfl⟩ := H1
  rw [CA_eq]
  simp -dsimp +contextual only [↓evA, eZ, Nat.reduceAdd, Nat.reduceMul, Nat.reduceBEq, Nat.reduceLeDiff, Nat.reduceLT, Tryz.func19, Tryz.f19, a19, e_laws_markSlotS_l2]
  try simp only [laws_markSlotS, eY]
  all_goals rfl
theorem e_laws_markClaimS_l2 (n : Nat) {R1} {a : List Claim} (k : Int) (i : Int) [H1 : EncL cClaim R1 a] : LP T (n + 1) 74 2 (frm [(0, .sl 0), (1, .i .i64 k), (5, .i .i64 i)]) [some (Ent.lst 5 R1)] =
    (run laws_markClaimS_l2 (a, k, i)).map (fun (zr : (List Claim) × Int) => (XE.exit 0, frm [(0, .sl 0), (1, .i .i64 zr.2)], [some (Ent.lst 5 (zr.1.map cClaim))])) := by
  obtain ⟨rfl⟩ := H1
  rw [LP_eq]
  simp -dsimp only [↓evA, evB, lpG_eq, Tryz.func74, Tryz.f74, a74, TP, TZ, Nat.reduceAdd, Nat.reduceMul, Nat.reduceBEq, Nat.reduceLeDiff, Nat.reduceLT]
  refine run_map (fun (zs : (List Claim) × Int × Int) => (frm [(0, .sl 0), (1, .i .i64 zs.2.1), (5, .i .i64 zs.2.2)], [some (Ent.lst 5 (zs.1.map cClaim))])) (fun (zr : (List Claim) × Int) => (XE.exit 0, frm [(0, .sl 0), (1, .i .i64 zr.2)], [some (Ent.lst 5 (zr.1.map cClaim))])) ?_ (a, k, i)
  rintro ⟨a, k, i⟩
  simp -dsimp +contextual only [↓evA, eZ, Nat.reduceAdd, Nat.reduceMul, Nat.reduceBEq, Nat.reduceLeDiff, Nat.reduceLT]
  try simp only [laws_markClaimS_l2, eY]
  all_goals rfl
theorem e_laws_markClaimS (n : Nat) {R1} {a : List Claim} (k : Int) [H1 : EncL cClaim R1 a] : CA T (n + 2) 74 [some (Ent.lst 5 R1)] [.sl 0, .i .i64 k] = (laws_markClaimS a k).map fun r => (.i .i64 r.2, [some (Ent.lst 5 (r.1.map cClaim))]) := by
  obtain ⟨rfl⟩ := H1
  rw [CA_eq]
  simp -dsimp +contextual only [↓evA, eZ, Nat.reduceAdd, Nat.reduceMul, Nat.reduceBEq, Nat.reduceLeDiff, Nat.reduceLT, Tryz.func74, Tryz.f74, a74, e_laws_markClaimS_l2]
  try simp only [laws_markClaimS, eY]
  all_goals rfl
theorem e_laws_markTrialS_l2 (n : Nat) {R1} {a : List Trial} (k : Int) (i : Int) [H1 : EncL cTrial R1 a] : LP T (n + 1) 75 2 (frm [(0, .sl 0), (1, .i .i64 k), (5, .i .i64 i)]) [some (Ent.lst 4 R1)] =
    (run laws_markTrialS_l2 (a, k, i)).map (fun (zr : (List Trial) × Int) => (XE.exit 0, frm [(0, .sl 0), (1, .i .i64 zr.2)], [some (Ent.lst 4 (zr.1.map cTrial))])) := by
  obtain ⟨rfl⟩ := H1
  rw [LP_eq]
  simp -dsimp only [↓evA, evB, lpG_eq, Tryz.func75, Tryz.f75, a75, TP, TZ, Nat.reduceAdd, Nat.reduceMul, Nat.reduceBEq, Nat.reduceLeDiff, Nat.reduceLT]
  refine run_map (fun (zs : (List Trial) × Int × Int) => (frm [(0, .sl 0), (1, .i .i64 zs.2.1), (5, .i .i64 zs.2.2)], [some (Ent.lst 4 (zs.1.map cTrial))])) (fun (zr : (List Trial) × Int) => (XE.exit 0, frm [(0, .sl 0), (1, .i .i64 zr.2)], [some (Ent.lst 4 (zr.1.map cTrial))])) ?_ (a, k, i)
  rintro ⟨a, k, i⟩
  simp -dsimp +contextual only [↓evA, eZ, Nat.reduceAdd, Nat.reduceMul, Nat.reduceBEq, Nat.reduceLeDiff, Nat.reduceLT]
  try simp only [laws_markTrialS_l2, eY]
  all_goals rfl
theorem e_laws_markTrialS (n : Nat) {R1} {a : List Trial} (k : Int) [H1 : EncL cTrial R1 a] : CA T (n + 2) 75 [some (Ent.lst 4 R1)] [.sl 0, .i .i64 k] = (laws_markTrialS a k).map fun r => (.i .i64 r.2, [some (Ent.lst 4 (r.1.map cTrial))]) := by
  obtain ⟨rfl⟩ := H1
  rw [CA_eq]
  simp -dsimp +contextual only [↓evA, eZ, Nat.reduceAdd, Nat.reduceMul, Nat.reduceBEq, Nat.reduceLeDiff, Nat.reduceLT, Tryz.func75, Tryz.f75, a75, e_laws_markTrialS_l2]
  try simp only [laws_markTrialS, eY]
  all_goals rfl
theorem e_laws_markHandS_l2 (n : Nat) {R1} {a : List Hand} (k : Int) (i : Int) [H1 : EncL cHand R1 a] : LP T (n + 1) 76 2 (frm [(0, .sl 0), (1, .i .i64 k), (5, .i .i64 i)]) [some (Ent.lst 5 R1)] =
    (run laws_markHandS_l2 (a, k, i)).map (fun (zr : (List Hand) × Int) => (XE.exit 0, frm [(0, .sl 0), (1, .i .i64 zr.2)], [some (Ent.lst 5 (zr.1.map cHand))])) := by
  obtain ⟨rfl⟩ := H1
  rw [LP_eq]
  simp -dsimp only [↓evA, evB, lpG_eq, Tryz.func76, Tryz.f76, a76, TP, TZ, Nat.reduceAdd, Nat.reduceMul, Nat.reduceBEq, Nat.reduceLeDiff, Nat.reduceLT]
  refine run_map (fun (zs : (List Hand) × Int × Int) => (frm [(0, .sl 0), (1, .i .i64 zs.2.1), (5, .i .i64 zs.2.2)], [some (Ent.lst 5 (zs.1.map cHand))])) (fun (zr : (List Hand) × Int) => (XE.exit 0, frm [(0, .sl 0), (1, .i .i64 zr.2)], [some (Ent.lst 5 (zr.1.map cHand))])) ?_ (a, k, i)
  rintro ⟨a, k, i⟩
  simp -dsimp +contextual only [↓evA, eZ, Nat.reduceAdd, Nat.reduceMul, Nat.reduceBEq, Nat.reduceLeDiff, Nat.reduceLT]
  try simp only [laws_markHandS_l2, eY]
  all_goals rfl
theorem e_laws_markHandS (n : Nat) {R1} {a : List Hand} (k : Int) [H1 : EncL cHand R1 a] : CA T (n + 2) 76 [some (Ent.lst 5 R1)] [.sl 0, .i .i64 k] = (laws_markHandS a k).map fun r => (.i .i64 r.2, [some (Ent.lst 5 (r.1.map cHand))]) := by
  obtain ⟨rfl⟩ := H1
  rw [CA_eq]
  simp -dsimp +contextual only [↓evA, eZ, Nat.reduceAdd, Nat.reduceMul, Nat.reduceBEq, Nat.reduceLeDiff, Nat.reduceLT, Tryz.func76, Tryz.f76, a76, e_laws_markHandS_l2]
  try simp only [laws_markHandS, eY]
  all_goals rfl
theorem e_laws_markEntryS_l2 (n : Nat) {R1} {a : List Entry} (k : Int) (i : Int) [H1 : EncL cEntry R1 a] : LP T (n + 1) 77 2 (frm [(0, .sl 0), (1, .i .i64 k), (5, .i .i64 i)]) [some (Ent.lst 4 R1)] =
    (run laws_markEntryS_l2 (a, k, i)).map (fun (zr : (List Entry) × Int) => (XE.exit 0, frm [(0, .sl 0), (1, .i .i64 zr.2)], [some (Ent.lst 4 (zr.1.map cEntry))])) := by
  obtain ⟨rfl⟩ := H1
  rw [LP_eq]
  simp -dsimp only [↓evA, evB, lpG_eq, Tryz.func77, Tryz.f77, a77, TP, TZ, Nat.reduceAdd, Nat.reduceMul, Nat.reduceBEq, Nat.reduceLeDiff, Nat.reduceLT]
  refine run_map (fun (zs : (List Entry) × Int × Int) => (frm [(0, .sl 0), (1, .i .i64 zs.2.1), (5, .i .i64 zs.2.2)], [some (Ent.lst 4 (zs.1.map cEntry))])) (fun (zr : (List Entry) × Int) => (XE.exit 0, frm [(0, .sl 0), (1, .i .i64 zr.2)], [some (Ent.lst 4 (zr.1.map cEntry))])) ?_ (a, k, i)
  rintro ⟨a, k, i⟩
  simp -dsimp +contextual only [↓evA, eZ, Nat.reduceAdd, Nat.reduceMul, Nat.reduceBEq, Nat.reduceLeDiff, Nat.reduceLT]
  try simp only [laws_markEntryS_l2, eY]
  all_goals rfl
theorem e_laws_markEntryS (n : Nat) {R1} {a : List Entry} (k : Int) [H1 : EncL cEntry R1 a] : CA T (n + 2) 77 [some (Ent.lst 4 R1)] [.sl 0, .i .i64 k] = (laws_markEntryS a k).map fun r => (.i .i64 r.2, [some (Ent.lst 4 (r.1.map cEntry))]) := by
  obtain ⟨rfl⟩ := H1
  rw [CA_eq]
  simp -dsimp +contextual only [↓evA, eZ, Nat.reduceAdd, Nat.reduceMul, Nat.reduceBEq, Nat.reduceLeDiff, Nat.reduceLT, Tryz.func77, Tryz.f77, a77, e_laws_markEntryS_l2]
  try simp only [laws_markEntryS, eY]
  all_goals rfl
theorem e_laws_markHouse (n : Nat) (axNo : Int) {R1} {axFinds : List Find} {R2} {axSecrets : List Secret} {R3} {axSlots : List Slot} {R4} {axClaims : List Claim} {R5} {axTrials : List Trial} {R6} {axChain : List Hand} {R7} {axBook : List Entry} (axNow : Int) (k : Int) [H1 : EncL cFind R1 axFinds] [H2 : EncL cSecretO R2 axSecrets] [H3 : EncL cSlot R3 axSlots] [H4 : EncL cClaim R4 axClaims] [H5 : EncL cTrial R5 axTrials] [H6 : EncL cHand R6 axChain] [H7 : EncL cEntry R7 axBook] : CA T (n + 5) 20 [some (Ent.lst 8 R1), some (Ent.lst 3 R2), some (Ent.lst 3 R3), some (Ent.lst 5 R4), some (Ent.lst 4 R5), some (Ent.lst 5 R6), some (Ent.lst 4 R7)] [.agg [.i .i64 axNo, .sl 0, .sl 1, .sl 2, .sl 3, .sl 4, .sl 5, .sl 6, .i .i64 axNow], .i .i64 k] = (laws_markHouse (⟨axNo, axFinds, axSecrets, axSlots, axClaims, axTrials, axChain, axBook, axNow⟩ : House) k).map fun r => (.i .i64 r.2, [some (Ent.lst 8 (r.1.Finds.map cFind)), some (Ent.lst 3 (r.1.Secrets.map cSecretO)), some (Ent.lst 3 (r.1.Slots.map cSlot)), some (Ent.lst 5 (r.1.Claims.map cClaim)), some (Ent.lst 4 (r.1.Trials.map cTrial)), some (Ent.lst 5 (r.1.Chain.map cHand)), some (Ent.lst 4 (r.1.Book.map cEntry))]) := by
  rcases H1, H2, H3, H4, H5, H6, H7 with ⟨⟨rfl⟩, ⟨rfl⟩, ⟨rfl⟩, ⟨rfl⟩, ⟨rfl⟩, ⟨rfl⟩, ⟨rfl⟩⟩
  rw [CA_eq]
  simp -dsimp +contextual (maxSteps := 100000000) only [↓evA, eZ, Nat.reduceAdd, Nat.reduceMul, Nat.reduceBEq, Nat.reduceLeDiff, Nat.reduceLT, Tryz.func20, Tryz.f20, a20, srt, e_laws_markFindS, e_laws_markSecretS, e_laws_markSlotS, e_laws_markClaimS, e_laws_markTrialS, e_laws_markHandS, e_laws_markEntryS]
  try simp only [laws_markHouse, eY]
  all_goals rfl
theorem e_laws_heldFindS_l2 (n : Nat) {R1} {a : List Find} (t1 : Int) (t5 : Int) [H1 : EncL cFind R1 a] : LP T (n + 1) 78 2 (frm [(0, .imm 8 R1), (1, .i .i64 t1), (5, .i .i64 t5)]) [] =
    lmap (run (laws_heldFindS_l2 a) (t1, t5)) (fun (zr : Int) => (XE.ret, frm [(4, .i .i64 zr)], [])) (fun (zr : Int) => (XE.exit 0, frm [(1, .i .i64 zr)], [])) := by
  obtain ⟨rfl⟩ := H1
  rw [LP_eq]
  simp -dsimp only [↓evA, evB, lpG_eq, Tryz.func78, Tryz.f78, a78, TP, TZ, Nat.reduceAdd, Nat.reduceMul, Nat.reduceBEq, Nat.reduceLeDiff, Nat.reduceLT]
  refine run_map (fun (zs : Int × Int) => (frm [(0, .imm 8 (a.map cFind)), (1, .i .i64 zs.1), (5, .i .i64 zs.2)], [])) (evO (fun (zr : Int) => (XE.ret, frm [(4, .i .i64 zr)], [])) (fun (zr : Int) => (XE.exit 0, frm [(1, .i .i64 zr)], []))) ?_ (t1, t5)
  rintro ⟨t1, t5⟩
  simp -dsimp +contextual only [↓evA, eZ, Nat.reduceAdd, Nat.reduceMul, Nat.reduceBEq, Nat.reduceLeDiff, Nat.reduceLT]
  try simp only [laws_heldFindS_l2, eY]
  all_goals rfl
theorem e_laws_heldFindS (n : Nat) {R1} {a : List Find} (a2 : Int) [H1 : EncL cFind R1 a] : CP T (n + 2) 78 [.imm 8 R1, .i .i64 a2] = (laws_heldFindS a a2).map fun r => .i .i64 r := by
  obtain ⟨rfl⟩ := H1
  rw [CP_eq]
  simp -dsimp +contextual only [↓evA, eZ, Nat.reduceAdd, Nat.reduceMul, Nat.reduceBEq, Nat.reduceLeDiff, Nat.reduceLT, Tryz.func78, Tryz.f78, a78, e_laws_heldFindS_l2]
  try simp only [laws_heldFindS, eY]
  all_goals rfl
theorem e_laws_heldMarkS_l2 (n : Nat) {R1} {a : List Mark} (k : Int) (i : Int) [H1 : EncL cMark R1 a] : LP T (n + 1) 170 2 (frm [(0, .imm 2 R1), (1, .i .i64 k), (5, .i .i64 i)]) [] =
    lmap (run (laws_heldMarkS_l2 a) (k, i)) (fun (zr : Int) => (XE.ret, frm [(4, .i .i64 zr)], [])) (fun (zr : Int) => (XE.exit 0, frm [(1, .i .i64 zr)], [])) := by
  obtain ⟨rfl⟩ := H1
  rw [LP_eq]
  simp -dsimp only [↓evA, evB, lpG_eq, Tryz.func170, Tryz.f170, a170, TP, TZ, Nat.reduceAdd, Nat.reduceMul, Nat.reduceBEq, Nat.reduceLeDiff, Nat.reduceLT]
  refine run_map (fun (zs : Int × Int) => (frm [(0, .imm 2 (a.map cMark)), (1, .i .i64 zs.1), (5, .i .i64 zs.2)], [])) (evO (fun (zr : Int) => (XE.ret, frm [(4, .i .i64 zr)], [])) (fun (zr : Int) => (XE.exit 0, frm [(1, .i .i64 zr)], []))) ?_ (k, i)
  rintro ⟨k, i⟩
  simp -dsimp +contextual only [↓evA, eZ, Nat.reduceAdd, Nat.reduceMul, Nat.reduceBEq, Nat.reduceLeDiff, Nat.reduceLT]
  try simp only [laws_heldMarkS_l2, eY]
  all_goals rfl
theorem e_laws_heldMarkS (n : Nat) {R1} {a : List Mark} (k : Int) [H1 : EncL cMark R1 a] : CP T (n + 2) 170 [.imm 2 R1, .i .i64 k] = (laws_heldMarkS a k).map fun r => .i .i64 r := by
  obtain ⟨rfl⟩ := H1
  rw [CP_eq]
  simp -dsimp +contextual only [↓evA, eZ, Nat.reduceAdd, Nat.reduceMul, Nat.reduceBEq, Nat.reduceLeDiff, Nat.reduceLT, Tryz.func170, Tryz.f170, a170, e_laws_heldMarkS_l2]
  try simp only [laws_heldMarkS, eY]
  all_goals rfl
theorem e_laws_heldSecretS_l2 (n : Nat) {R1} {a : List Secret} (k : Int) (i : Int) [H1 : EncL cSecret R1 a] : LP T (n + 3) 79 2 (frm [(0, .imm 3 R1), (1, .i .i64 k), (5, .i .i64 i)]) [] =
    lmap (run (laws_heldSecretS_l2 a) (k, i)) (fun (zr : Int) => (XE.ret, frm [(4, .i .i64 zr)], [])) (fun (zr : Int) => (XE.exit 0, frm [(1, .i .i64 zr)], [])) := by
  obtain ⟨rfl⟩ := H1
  rw [LP_eq]
  simp -dsimp only [↓evA, evB, lpG_eq, Tryz.func79, Tryz.f79, a79, TP, TZ, Nat.reduceAdd, Nat.reduceMul, Nat.reduceBEq, Nat.reduceLeDiff, Nat.reduceLT]
  refine run_map (fun (zs : Int × Int) => (frm [(0, .imm 3 (a.map cSecret)), (1, .i .i64 zs.1), (5, .i .i64 zs.2)], [])) (evO (fun (zr : Int) => (XE.ret, frm [(4, .i .i64 zr)], [])) (fun (zr : Int) => (XE.exit 0, frm [(1, .i .i64 zr)], []))) ?_ (k, i)
  rintro ⟨k, i⟩
  simp -dsimp +contextual only [↓evA, eZ, Nat.reduceAdd, Nat.reduceMul, Nat.reduceBEq, Nat.reduceLeDiff, Nat.reduceLT, e_laws_heldMarkS]
  try simp only [laws_heldSecretS_l2, eY]
  all_goals rfl
theorem e_laws_heldSecretS (n : Nat) {R1} {a : List Secret} (k : Int) [H1 : EncL cSecret R1 a] : CP T (n + 4) 79 [.imm 3 R1, .i .i64 k] = (laws_heldSecretS a k).map fun r => .i .i64 r := by
  obtain ⟨rfl⟩ := H1
  rw [CP_eq]
  simp -dsimp +contextual only [↓evA, eZ, Nat.reduceAdd, Nat.reduceMul, Nat.reduceBEq, Nat.reduceLeDiff, Nat.reduceLT, Tryz.func79, Tryz.f79, a79, e_laws_heldSecretS_l2]
  try simp only [laws_heldSecretS, eY]
  all_goals rfl
theorem e_laws_heldSlotS_l2 (n : Nat) {R1} {a : List Slot} (k : Int) (i : Int) [H1 : EncL cSlot R1 a] : LP T (n + 1) 80 2 (frm [(0, .imm 3 R1), (1, .i .i64 k), (5, .i .i64 i)]) [] =
    lmap (run (laws_heldSlotS_l2 a) (k, i)) (fun (zr : Int) => (XE.ret, frm [(4, .i .i64 zr)], [])) (fun (zr : Int) => (XE.exit 0, frm [(1, .i .i64 zr)], [])) := by
  obtain ⟨rfl⟩ := H1
  rw [LP_eq]
  simp -dsimp only [↓evA, evB, lpG_eq, Tryz.func80, Tryz.f80, a80, TP, TZ, Nat.reduceAdd, Nat.reduceMul, Nat.reduceBEq, Nat.reduceLeDiff, Nat.reduceLT]
  refine run_map (fun (zs : Int × Int) => (frm [(0, .imm 3 (a.map cSlot)), (1, .i .i64 zs.1), (5, .i .i64 zs.2)], [])) (evO (fun (zr : Int) => (XE.ret, frm [(4, .i .i64 zr)], [])) (fun (zr : Int) => (XE.exit 0, frm [(1, .i .i64 zr)], []))) ?_ (k, i)
  rintro ⟨k, i⟩
  simp -dsimp +contextual only [↓evA, eZ, Nat.reduceAdd, Nat.reduceMul, Nat.reduceBEq, Nat.reduceLeDiff, Nat.reduceLT]
  try simp only [laws_heldSlotS_l2, eY]
  all_goals rfl
theorem e_laws_heldSlotS (n : Nat) {R1} {a : List Slot} (k : Int) [H1 : EncL cSlot R1 a] : CP T (n + 2) 80 [.imm 3 R1, .i .i64 k] = (laws_heldSlotS a k).map fun r => .i .i64 r := by
  obtain ⟨rfl⟩ := H1
  rw [CP_eq]
  simp -dsimp +contextual only [↓evA, eZ, Nat.reduceAdd, Nat.reduceMul, Nat.reduceBEq, Nat.reduceLeDiff, Nat.reduceLT, Tryz.func80, Tryz.f80, a80, e_laws_heldSlotS_l2]
  try simp only [laws_heldSlotS, eY]
  all_goals rfl
theorem e_laws_heldClaimS_l2 (n : Nat) {R1} {a : List Claim} (k : Int) (i : Int) [H1 : EncL cClaim R1 a] : LP T (n + 1) 81 2 (frm [(0, .imm 5 R1), (1, .i .i64 k), (5, .i .i64 i)]) [] =
    lmap (run (laws_heldClaimS_l2 a) (k, i)) (fun (zr : Int) => (XE.ret, frm [(4, .i .i64 zr)], [])) (fun (zr : Int) => (XE.exit 0, frm [(1, .i .i64 zr)], [])) := by
  obtain ⟨rfl⟩ := H1
  rw [LP_eq]
  simp -dsimp only [↓evA, evB, lpG_eq, Tryz.func81, Tryz.f81, a81, TP, TZ, Nat.reduceAdd, Nat.reduceMul, Nat.reduceBEq, Nat.reduceLeDiff, Nat.reduceLT]
  refine run_map (fun (zs : Int × Int) => (frm [(0, .imm 5 (a.map cClaim)), (1, .i .i64 zs.1), (5, .i .i64 zs.2)], [])) (evO (fun (zr : Int) => (XE.ret, frm [(4, .i .i64 zr)], [])) (fun (zr : Int) => (XE.exit 0, frm [(1, .i .i64 zr)], []))) ?_ (k, i)
  rintro ⟨k, i⟩
  simp -dsimp +contextual only [↓evA, eZ, Nat.reduceAdd, Nat.reduceMul, Nat.reduceBEq, Nat.reduceLeDiff, Nat.reduceLT]
  try simp only [laws_heldClaimS_l2, eY]
  all_goals rfl
theorem e_laws_heldClaimS (n : Nat) {R1} {a : List Claim} (k : Int) [H1 : EncL cClaim R1 a] : CP T (n + 2) 81 [.imm 5 R1, .i .i64 k] = (laws_heldClaimS a k).map fun r => .i .i64 r := by
  obtain ⟨rfl⟩ := H1
  rw [CP_eq]
  simp -dsimp +contextual only [↓evA, eZ, Nat.reduceAdd, Nat.reduceMul, Nat.reduceBEq, Nat.reduceLeDiff, Nat.reduceLT, Tryz.func81, Tryz.f81, a81, e_laws_heldClaimS_l2]
  try simp only [laws_heldClaimS, eY]
  all_goals rfl
theorem e_laws_heldTrialS_l2 (n : Nat) {R1} {a : List Trial} (k : Int) (i : Int) [H1 : EncL cTrial R1 a] : LP T (n + 1) 82 2 (frm [(0, .imm 4 R1), (1, .i .i64 k), (5, .i .i64 i)]) [] =
    lmap (run (laws_heldTrialS_l2 a) (k, i)) (fun (zr : Int) => (XE.ret, frm [(4, .i .i64 zr)], [])) (fun (zr : Int) => (XE.exit 0, frm [(1, .i .i64 zr)], [])) := by
  obtain ⟨rfl⟩ := H1
  rw [LP_eq]
  simp -dsimp only [↓evA, evB, lpG_eq, Tryz.func82, Tryz.f82, a82, TP, TZ, Nat.reduceAdd, Nat.reduceMul, Nat.reduceBEq, Nat.reduceLeDiff, Nat.reduceLT]
  refine run_map (fun (zs : Int × Int) => (frm [(0, .imm 4 (a.map cTrial)), (1, .i .i64 zs.1), (5, .i .i64 zs.2)], [])) (evO (fun (zr : Int) => (XE.ret, frm [(4, .i .i64 zr)], [])) (fun (zr : Int) => (XE.exit 0, frm [(1, .i .i64 zr)], []))) ?_ (k, i)
  rintro ⟨k, i⟩
  simp -dsimp +contextual only [↓evA, eZ, Nat.reduceAdd, Nat.reduceMul, Nat.reduceBEq, Nat.reduceLeDiff, Nat.reduceLT]
  try simp only [laws_heldTrialS_l2, eY]
  all_goals rfl
theorem e_laws_heldTrialS (n : Nat) {R1} {a : List Trial} (k : Int) [H1 : EncL cTrial R1 a] : CP T (n + 2) 82 [.imm 4 R1, .i .i64 k] = (laws_heldTrialS a k).map fun r => .i .i64 r := by
  obtain ⟨rfl⟩ := H1
  rw [CP_eq]
  simp -dsimp +contextual only [↓evA, eZ, Nat.reduceAdd, Nat.reduceMul, Nat.reduceBEq, Nat.reduceLeDiff, Nat.reduceLT, Tryz.func82, Tryz.f82, a82, e_laws_heldTrialS_l2]
  try simp only [laws_heldTrialS, eY]
  all_goals rfl
theorem e_laws_heldHandS_l2 (n : Nat) {R1} {a : List Hand} (k : Int) (i : Int) [H1 : EncL cHand R1 a] : LP T (n + 1) 83 2 (frm [(0, .imm 5 R1), (1, .i .i64 k), (5, .i .i64 i)]) [] =
    lmap (run (laws_heldHandS_l2 a) (k, i)) (fun (zr : Int) => (XE.ret, frm [(4, .i .i64 zr)], [])) (fun (zr : Int) => (XE.exit 0, frm [(1, .i .i64 zr)], [])) := by
  obtain ⟨rfl⟩ := H1
  rw [LP_eq]
  simp -dsimp only [↓evA, evB, lpG_eq, Tryz.func83, Tryz.f83, a83, TP, TZ, Nat.reduceAdd, Nat.reduceMul, Nat.reduceBEq, Nat.reduceLeDiff, Nat.reduceLT]
  refine run_map (fun (zs : Int × Int) => (frm [(0, .imm 5 (a.map cHand)), (1, .i .i64 zs.1), (5, .i .i64 zs.2)], [])) (evO (fun (zr : Int) => (XE.ret, frm [(4, .i .i64 zr)], [])) (fun (zr : Int) => (XE.exit 0, frm [(1, .i .i64 zr)], []))) ?_ (k, i)
  rintro ⟨k, i⟩
  simp -dsimp +contextual only [↓evA, eZ, Nat.reduceAdd, Nat.reduceMul, Nat.reduceBEq, Nat.reduceLeDiff, Nat.reduceLT]
  try simp only [laws_heldHandS_l2, eY]
  all_goals rfl
theorem e_laws_heldHandS (n : Nat) {R1} {a : List Hand} (k : Int) [H1 : EncL cHand R1 a] : CP T (n + 2) 83 [.imm 5 R1, .i .i64 k] = (laws_heldHandS a k).map fun r => .i .i64 r := by
  obtain ⟨rfl⟩ := H1
  rw [CP_eq]
  simp -dsimp +contextual only [↓evA, eZ, Nat.reduceAdd, Nat.reduceMul, Nat.reduceBEq, Nat.reduceLeDiff, Nat.reduceLT, Tryz.func83, Tryz.f83, a83, e_laws_heldHandS_l2]
  try simp only [laws_heldHandS, eY]
  all_goals rfl
theorem e_laws_heldEntryS_l2 (n : Nat) {R1} {a : List Entry} (k : Int) (i : Int) [H1 : EncL cEntry R1 a] : LP T (n + 1) 84 2 (frm [(0, .imm 4 R1), (1, .i .i64 k), (5, .i .i64 i)]) [] =
    lmap (run (laws_heldEntryS_l2 a) (k, i)) (fun (zr : Int) => (XE.ret, frm [(4, .i .i64 zr)], [])) (fun (zr : Int) => (XE.exit 0, frm [(1, .i .i64 zr)], [])) := by
  obtain ⟨rfl⟩ := H1
  rw [LP_eq]
  simp -dsimp only [↓evA, evB, lpG_eq, Tryz.func84, Tryz.f84, a84, TP, TZ, Nat.reduceAdd, Nat.reduceMul, Nat.reduceBEq, Nat.reduceLeDiff, Nat.reduceLT]
  refine run_map (fun (zs : Int × Int) => (frm [(0, .imm 4 (a.map cEntry)), (1, .i .i64 zs.1), (5, .i .i64 zs.2)], [])) (evO (fun (zr : Int) => (XE.ret, frm [(4, .i .i64 zr)], [])) (fun (zr : Int) => (XE.exit 0, frm [(1, .i .i64 zr)], []))) ?_ (k, i)
  rintro ⟨k, i⟩
  simp -dsimp +contextual only [↓evA, eZ, Nat.reduceAdd, Nat.reduceMul, Nat.reduceBEq, Nat.reduceLeDiff, Nat.reduceLT]
  try simp only [laws_heldEntryS_l2, eY]
  all_goals rfl
theorem e_laws_heldEntryS (n : Nat) {R1} {a : List Entry} (k : Int) [H1 : EncL cEntry R1 a] : CP T (n + 2) 84 [.imm 4 R1, .i .i64 k] = (laws_heldEntryS a k).map fun r => .i .i64 r := by
  obtain ⟨rfl⟩ := H1
  rw [CP_eq]
  simp -dsimp +contextual only [↓evA, eZ, Nat.reduceAdd, Nat.reduceMul, Nat.reduceBEq, Nat.reduceLeDiff, Nat.reduceLT, Tryz.func84, Tryz.f84, a84, e_laws_heldEntryS_l2]
  try simp only [laws_heldEntryS, eY]
  all_goals rfl
theorem e_laws_heldHouse (n : Nat) (axNo : Int) {R1} {axFinds : List Find} {R2} {axSecrets : List Secret} {R3} {axSlots : List Slot} {R4} {axClaims : List Claim} {R5} {axTrials : List Trial} {R6} {axChain : List Hand} {R7} {axBook : List Entry} (axNow : Int) (k : Int) [H1 : EncL cFind R1 axFinds] [H2 : EncL cSecret R2 axSecrets] [H3 : EncL cSlot R3 axSlots] [H4 : EncL cClaim R4 axClaims] [H5 : EncL cTrial R5 axTrials] [H6 : EncL cHand R6 axChain] [H7 : EncL cEntry R7 axBook] : CP T (n + 5) 21 [.agg [.i .i64 axNo, .imm 8 R1, .imm 3 R2, .imm 3 R3, .imm 5 R4, .imm 4 R5, .imm 5 R6, .imm 4 R7, .i .i64 axNow], .i .i64 k] = (laws_heldHouse (⟨axNo, axFinds, axSecrets, axSlots, axClaims, axTrials, axChain, axBook, axNow⟩ : House) k).map fun r => .i .i64 r := by
  rcases H1, H2, H3, H4, H5, H6, H7 with ⟨⟨rfl⟩, ⟨rfl⟩, ⟨rfl⟩, ⟨rfl⟩, ⟨rfl⟩, ⟨rfl⟩, ⟨rfl⟩⟩
  rw [CP_eq]
  simp -dsimp +contextual (maxSteps := 100000000) only [↓evA, eZ, Nat.reduceAdd, Nat.reduceMul, Nat.reduceBEq, Nat.reduceLeDiff, Nat.reduceLT, Tryz.func21, Tryz.f21, a21, e_laws_heldFindS, e_laws_heldSecretS, e_laws_heldSlotS, e_laws_heldClaimS, e_laws_heldTrialS, e_laws_heldHandS, e_laws_heldEntryS]
  try simp only [laws_heldHouse, eY]
  all_goals rfl
theorem e_laws_FnExactStepFind (n : Nat) (aHxNo : Int) {R1} {aHxFinds : List Find} {R2} {aHxSecrets : List Secret} {R3} {aHxSlots : List Slot} {R4} {aHxClaims : List Claim} {R5} {aHxTrials : List Trial} {R6} {aHxChain : List Hand} {R7} {aHxBook : List Entry} (aHxNow : Int) (axThingxId : Int) (axThingxKind : Int) (axThingxColour : Int) (axThingxSize : Int) (axThingxWorth : Int) (axPlace : Int) (axAt : Int) (axFinder : Int) {R8} {a2 : List Mark} (a3 : Int) [H1 : EncL cFind R1 aHxFinds] [H2 : EncL cSecret R2 aHxSecrets] [H3 : EncL cSlot R3 aHxSlots] [H4 : EncL cClaim R4 aHxClaims] [H5 : EncL cTrial R5 aHxTrials] [H6 : EncL cHand R6 aHxChain] [H7 : EncL cEntry R7 aHxBook] [H8 : EncL cMark R8 a2] : CP T (n + 14) 9 [.agg [.i .i64 aHxNo, .imm 8 R1, .imm 3 R2, .imm 3 R3, .imm 5 R4, .imm 4 R5, .imm 5 R6, .imm 4 R7, .i .i64 aHxNow], .agg [.i .i64 axThingxId, .i .i64 axThingxKind, .i .i64 axThingxColour, .i .i64 axThingxSize, .i .i64 axThingxWorth, .i .i64 axPlace, .i .i64 axAt, .i .i64 axFinder], .imm 2 R8, .i .i64 a3] = (laws_FnExactStepFind (⟨aHxNo, aHxFinds, aHxSecrets, aHxSlots, aHxClaims, aHxTrials, aHxChain, aHxBook, aHxNow⟩ : House) (⟨⟨axThingxId, axThingxKind, axThingxColour, axThingxSize, axThingxWorth⟩, axPlace, axAt, axFinder⟩ : Find) a2 a3).map fun r => .b r := by
  rcases H1, H2, H3, H4, H5, H6, H7, H8 with ⟨⟨rfl⟩, ⟨rfl⟩, ⟨rfl⟩, ⟨rfl⟩, ⟨rfl⟩, ⟨rfl⟩, ⟨rfl⟩, ⟨rfl⟩⟩
  rw [CP_eq]
  simp -dsimp +contextual (maxSteps := 100000000) only [↓evA, eZ, Nat.reduceAdd, Nat.reduceMul, Nat.reduceBEq, Nat.reduceLeDiff, Nat.reduceLT, Tryz.func9, Tryz.f9, a9, srt, e_laws_szHouse, e_laws_szMarkS, e_laws_toHouse, e_laws_toFind, e_laws_toMarkS, e_spec_StepFind, e_impl_StepFind, e_laws_eqHouse, e_laws_eqMarkS, e_laws_markHouse, e_laws_markMarkS, e_laws_heldHouse]
  try simp only [laws_FnExactStepFind, eY]
  try simp only [List.contains_nil, Bool.not_false, Bool.and_true, e_need_t, List.length_append, List.length_cons, List.length_nil, Nat.zero_add, need_comm, oeq_self]
  all_goals rfl
end Go.Proofs.YtcdffihcfeajfaaGreat
