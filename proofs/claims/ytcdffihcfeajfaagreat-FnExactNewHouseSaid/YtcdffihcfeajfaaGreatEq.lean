/- The functions of the program come to the typed ones. No condition. -/
import Derived.Test.YtcdffihcfeajfaaGreatEc
namespace Go.Proofs.YtcdffihcfeajfaaGreat
open Go Go.Proofs Go.Proofs.YtcdffihcfeajfaaGreat.Am
set_option linter.unusedVariables false
set_option linter.unusedSimpArgs false
set_option linter.defProp false
set_option maxRecDepth 100000
theorem e_laws_szSlotS (n : Nat) {R1} {a : List Slot} (left : Int) [H1 : EncL cSlot R1 a] : CP T (n + 1) 13 [.imm 3 R1, .i .i64 left] = (laws_szSlotS a left).map fun r => .i .i64 r := by
  obtain ⟨rfl⟩ := H1
  rw [CP_eq]
  simp -dsimp +contextual only [↓evA, evB, evT, tys, encs, Nat.reduceAdd, Nat.reduceMul, Nat.reduceBEq, Nat.reduceLeDiff, Nat.reduceLT, Tryz.func13, Tryz.f13, a13, TP, TZ, orc_p, orc_l, orc_a, orc_m]
  try simp only [laws_szSlotS, evT, encs, c_js, r_map_some, e_need_t]
  all_goals rfl
theorem e_laws_toSlot (n : Nat) (axId : Int) (axSize : Int) (axThing : Int) : CP T (n + 1) 62 [.agg [.i .i64 axId, .i .i64 axSize, .i .i64 axThing]] = (laws_toSlot (⟨axId, axSize, axThing⟩ : Slot)).map fun r => .agg (cSlot r) := by
  rw [CP_eq]
  simp -dsimp +contextual only [↓evA, evB, evT, tys, encs, Nat.reduceAdd, Nat.reduceMul, Nat.reduceBEq, Nat.reduceLeDiff, Nat.reduceLT, Tryz.func62, Tryz.f62, a62, TP, TZ, orc_p, orc_l, orc_a, orc_m]
  try simp only [laws_toSlot, evT, encs, c_js, r_map_some, e_need_t]
  all_goals rfl
theorem e_laws_toSlotS_l3 (n : Nat) {R1} {a : List Slot} {R2} {out : List Slot} (i : Int) [H1 : EncL cSlot R1 a] [H2 : EncL cSlot R2 out] : LP T (n + 2) 15 3 (frm [(0, .imm 3 R1), (3, .sl 0), (4, .i .i64 i)]) [some (Ent.lst 3 R2)] =
    (run (laws_toSlotS_l3 a) (out, i)).map (fun (zr : (List Slot)) => (XE.exit 0, frm [(3, .sl 0)], [some (Ent.lst 3 (zr.map cSlot))])) := by
  obtain ⟨rfl⟩ := H1
  obtain ⟨rfl⟩ := H2
  rw [LP_eq]
  simp -dsimp only [↓evA, evB, lpG_eq, Tryz.func15, Tryz.f15, a15, TP, TZ, Nat.reduceAdd, Nat.reduceMul, Nat.reduceBEq, Nat.reduceLeDiff, Nat.reduceLT]
  refine run_map (fun (zs : (List Slot) × Int) => (frm [(0, .imm 3 (a.map cSlot)), (3, .sl 0), (4, .i .i64 zs.2)], [some (Ent.lst 3 (zs.1.map cSlot))])) (fun (zr : (List Slot)) => (XE.exit 0, frm [(3, .sl 0)], [some (Ent.lst 3 (zr.map cSlot))])) ?_ (out, i)
  rintro ⟨out, i⟩
  simp -dsimp +contextual only [↓evA, evB, evT, tys, encs, Nat.reduceAdd, Nat.reduceMul, Nat.reduceBEq, Nat.reduceLeDiff, Nat.reduceLT, TP, TZ, orc_p, orc_l, orc_a, orc_m, e_laws_toSlot]
  try simp only [laws_toSlotS_l3, evT, encs, c_js, r_map_some, e_need_t]
  all_goals rfl
theorem e_laws_toSlotS (n : Nat) {R1} {a : List Slot} [H1 : EncL cSlot R1 a] : CP T (n + 3) 15 [.imm 3 R1] = (laws_toSlotS a).map fun r => .own 3 (r.map cSlot) := by
  obtain ⟨rfl⟩ := H1
  rw [CP_eq]
  simp -dsimp +contextual only [↓evA, evB, evT, tys, encs, Nat.reduceAdd, Nat.reduceMul, Nat.reduceBEq, Nat.reduceLeDiff, Nat.reduceLT, Tryz.func15, Tryz.f15, a15, TP, TZ, orc_p, orc_l, orc_a, orc_m, e_laws_toSlotS_l3]
  try simp only [laws_toSlotS, evT, encs, c_js, r_map_some, e_need_t]
  all_goals rfl
theorem e_spec_l31Copy_l3 (n : Nat) {R1} {l : List Secret} {R2} {out : List Secret} (i : Int) [H1 : EncL cSecret R1 l] [H2 : EncL cSecretO R2 out] : LP T (n + 1) 147 3 (frm [(0, .imm 3 R1), (3, .sl 0), (4, .i .i64 i)]) [some (Ent.lst 3 R2)] =
    (run (spec_l31Copy_l3 l) (out, i)).map (fun (zr : (List Secret)) => (XE.exit 0, frm [(3, .sl 0)], [some (Ent.lst 3 (zr.map cSecretO))])) := by
  obtain ⟨rfl⟩ := H1
  obtain ⟨rfl⟩ := H2
  rw [LP_eq]
  simp -dsimp only [↓evA, evB, lpG_eq, Tryz.func147, Tryz.f147, a147, TP, TZ, Nat.reduceAdd, Nat.reduceMul, Nat.reduceBEq, Nat.reduceLeDiff, Nat.reduceLT]
  refine run_map (fun (zs : (List Secret) × Int) => (frm [(0, .imm 3 (l.map cSecret)), (3, .sl 0), (4, .i .i64 zs.2)], [some (Ent.lst 3 (zs.1.map cSecretO))])) (fun (zr : (List Secret)) => (XE.exit 0, frm [(3, .sl 0)], [some (Ent.lst 3 (zr.map cSecretO))])) ?_ (out, i)
  rintro ⟨out, i⟩
  simp -dsimp +contextual only [↓evA, evB, evT, tys, encs, Nat.reduceAdd, Nat.reduceMul, Nat.reduceBEq, Nat.reduceLeDiff, Nat.reduceLT, TP, TZ, orc_p, orc_l, orc_a, orc_m]
  try simp only [spec_l31Copy_l3, evT, encs, c_js, r_map_some, e_need_t]
  all_goals rfl
theorem e_spec_l31Copy (n : Nat) {R1} {l : List Secret} [H1 : EncL cSecret R1 l] : CP T (n + 2) 147 [.imm 3 R1] = (spec_l31Copy l).map fun r => .own 3 (r.map cSecretO) := by
  obtain ⟨rfl⟩ := H1
  rw [CP_eq]
  simp -dsimp +contextual only [↓evA, evB, evT, tys, encs, Nat.reduceAdd, Nat.reduceMul, Nat.reduceBEq, Nat.reduceLeDiff, Nat.reduceLT, Tryz.func147, Tryz.f147, a147, TP, TZ, orc_p, orc_l, orc_a, orc_m, e_spec_l31Copy_l3]
  try simp only [spec_l31Copy, evT, encs, c_js, r_map_some, e_need_t]
  all_goals rfl
theorem e_spec_l33Copy (n : Nat) (vhxNo : Int) {R1} {vhxFinds : List Find} {R2} {vhxSecrets : List Secret} {R3} {vhxSlots : List Slot} {R4} {vhxClaims : List Claim} {R5} {vhxTrials : List Trial} {R6} {vhxChain : List Hand} {R7} {vhxBook : List Entry} (vhxNow : Int) [H1 : EncL cFind R1 vhxFinds] [H2 : EncL cSecret R2 vhxSecrets] [H3 : EncL cSlot R3 vhxSlots] [H4 : EncL cClaim R4 vhxClaims] [H5 : EncL cTrial R5 vhxTrials] [H6 : EncL cHand R6 vhxChain] [H7 : EncL cEntry R7 vhxBook] : CP T (n + 3) 59 [.agg [.i .i64 vhxNo, .imm 8 R1, .imm 3 R2, .imm 3 R3, .imm 5 R4, .imm 4 R5, .imm 5 R6, .imm 4 R7, .i .i64 vhxNow]] = (spec_l33Copy (⟨vhxNo, vhxFinds, vhxSecrets, vhxSlots, vhxClaims, vhxTrials, vhxChain, vhxBook, vhxNow⟩ : House)).map fun r => .agg (cHouseO r) := by
  obtain ⟨rfl⟩ := H1
  obtain ⟨rfl⟩ := H2
  obtain ⟨rfl⟩ := H3
  obtain ⟨rfl⟩ := H4
  obtain ⟨rfl⟩ := H5
  obtain ⟨rfl⟩ := H6
  obtain ⟨rfl⟩ := H7
  rw [CP_eq]
  simp -dsimp +contextual only [↓evA, evB, evT, tys, encs, Nat.reduceAdd, Nat.reduceMul, Nat.reduceBEq, Nat.reduceLeDiff, Nat.reduceLT, Tryz.func59, Tryz.f59, a59, TP, TZ, orc_p, orc_l, orc_a, orc_m, e_spec_l31Copy]
  try simp only [spec_l33Copy, evT, encs, c_js, r_map_some, e_need_t]
  all_goals rfl
theorem e_spec_l1In (n : Nat) (x : Int) (least : Int) (most : Int) : CP T (n + 1) 91 [.i .i64 x, .i .i64 least, .i .i64 most] = (spec_l1In x least most).map fun r => .b r := by
  rw [CP_eq]
  simp -dsimp +contextual only [↓evA, evB, evT, tys, encs, Nat.reduceAdd, Nat.reduceMul, Nat.reduceBEq, Nat.reduceLeDiff, Nat.reduceLT, Tryz.func91, Tryz.f91, a91, TP, TZ, orc_p, orc_l, orc_a, orc_m]
  try simp only [spec_l1In, evT, encs, c_js, r_map_some, e_need_t]
  all_goals rfl
theorem e_spec_IsThing (n : Nat) (xxId : Int) (xxKind : Int) (xxColour : Int) (xxSize : Int) (xxWorth : Int) : CP T (n + 2) 208 [.agg [.i .i64 xxId, .i .i64 xxKind, .i .i64 xxColour, .i .i64 xxSize, .i .i64 xxWorth]] = (spec_IsThing (⟨xxId, xxKind, xxColour, xxSize, xxWorth⟩ : Thing)).map fun r => .b r := by
  rw [CP_eq]
  simp -dsimp +contextual only [↓evA, evB, evT, tys, encs, Nat.reduceAdd, Nat.reduceMul, Nat.reduceBEq, Nat.reduceLeDiff, Nat.reduceLT, Tryz.func208, Tryz.f208, a208, TP, TZ, orc_p, orc_l, orc_a, orc_m, e_spec_l1In]
  try simp only [spec_IsThing, evT, encs, c_js, r_map_some, e_need_t]
  all_goals rfl
theorem e_spec_IsFind (n : Nat) (fxThingxId : Int) (fxThingxKind : Int) (fxThingxColour : Int) (fxThingxSize : Int) (fxThingxWorth : Int) (fxPlace : Int) (fxAt : Int) (fxFinder : Int) : CP T (n + 3) 229 [.agg [.i .i64 fxThingxId, .i .i64 fxThingxKind, .i .i64 fxThingxColour, .i .i64 fxThingxSize, .i .i64 fxThingxWorth, .i .i64 fxPlace, .i .i64 fxAt, .i .i64 fxFinder]] = (spec_IsFind (⟨⟨fxThingxId, fxThingxKind, fxThingxColour, fxThingxSize, fxThingxWorth⟩, fxPlace, fxAt, fxFinder⟩ : Find)).map fun r => .b r := by
  rw [CP_eq]
  simp -dsimp +contextual only [↓evA, evB, evT, tys, encs, Nat.reduceAdd, Nat.reduceMul, Nat.reduceBEq, Nat.reduceLeDiff, Nat.reduceLT, Tryz.func229, Tryz.f229, a229, TP, TZ, orc_p, orc_l, orc_a, orc_m, e_spec_IsThing, e_spec_l1In]
  try simp only [spec_IsFind, evT, encs, c_js, r_map_some, e_need_t]
  all_goals rfl
theorem e_spec_AreFinds_l2 (n : Nat) {R1} {l : List Find} (i : Int) [H1 : EncL cFind R1 l] : LP T (n + 4) 148 2 (frm [(0, .imm 8 R1), (3, .i .i64 i)]) [] =
    lmap (run (spec_AreFinds_l2 l) i) (fun (zr : Bool) => (XE.ret, frm [(2, .b zr)], [])) (fun (zr : Unit) => (XE.exit 0, frm [(0, .imm 8 (l.map cFind))], [])) := by
  obtain ⟨rfl⟩ := H1
  rw [LP_eq]
  simp -dsimp only [↓evA, evB, lpG_eq, Tryz.func148, Tryz.f148, a148, TP, TZ, Nat.reduceAdd, Nat.reduceMul, Nat.reduceBEq, Nat.reduceLeDiff, Nat.reduceLT]
  refine run_map (fun (zs : Int) => (frm [(0, .imm 8 (l.map cFind)), (3, .i .i64 zs)], [])) (evO (fun (zr : Bool) => (XE.ret, frm [(2, .b zr)], [])) (fun (zr : Unit) => (XE.exit 0, frm [(0, .imm 8 (l.map cFind))], []))) ?_ i
  intro i
  simp -dsimp +contextual only [↓evA, evB, evT, tys, encs, Nat.reduceAdd, Nat.reduceMul, Nat.reduceBEq, Nat.reduceLeDiff, Nat.reduceLT, TP, TZ, orc_p, orc_l, orc_a, orc_m, e_spec_IsFind]
  try simp only [spec_AreFinds_l2, evT, encs, c_js, r_map_some, e_need_t]
  all_goals rfl
theorem e_spec_AreFinds (n : Nat) {R1} {l : List Find} [H1 : EncL cFind R1 l] : CP T (n + 5) 148 [.imm 8 R1] = (spec_AreFinds l).map fun r => .b r := by
  obtain ⟨rfl⟩ := H1
  rw [CP_eq]
  simp -dsimp +contextual only [↓evA, evB, evT, tys, encs, Nat.reduceAdd, Nat.reduceMul, Nat.reduceBEq, Nat.reduceLeDiff, Nat.reduceLT, Tryz.func148, Tryz.f148, a148, TP, TZ, orc_p, orc_l, orc_a, orc_m, e_spec_AreFinds_l2]
  try simp only [spec_AreFinds, evT, encs, c_js, r_map_some, e_need_t]
  all_goals rfl
theorem e_spec_AreMarks_l2 (n : Nat) {R1} {l : List Mark} (i : Int) [H1 : EncL cMark R1 l] : LP T (n + 2) 188 2 (frm [(0, .imm 2 R1), (3, .i .i64 i)]) [] =
    lmap (run (spec_AreMarks_l2 l) i) (fun (zr : Bool) => (XE.ret, frm [(2, .b zr)], [])) (fun (zr : Unit) => (XE.exit 0, frm [(0, .imm 2 (l.map cMark))], [])) := by
  obtain ⟨rfl⟩ := H1
  rw [LP_eq]
  simp -dsimp only [↓evA, evB, lpG_eq, Tryz.func188, Tryz.f188, a188, TP, TZ, Nat.reduceAdd, Nat.reduceMul, Nat.reduceBEq, Nat.reduceLeDiff, Nat.reduceLT]
  refine run_map (fun (zs : Int) => (frm [(0, .imm 2 (l.map cMark)), (3, .i .i64 zs)], [])) (evO (fun (zr : Bool) => (XE.ret, frm [(2, .b zr)], [])) (fun (zr : Unit) => (XE.exit 0, frm [(0, .imm 2 (l.map cMark))], []))) ?_ i
  intro i
  simp -dsimp +contextual only [↓evA, evB, evT, tys, encs, Nat.reduceAdd, Nat.reduceMul, Nat.reduceBEq, Nat.reduceLeDiff, Nat.reduceLT, TP, TZ, orc_p, orc_l, orc_a, orc_m, e_spec_l1In]
  try simp only [spec_AreMarks_l2, evT, encs, c_js, r_map_some, e_need_t]
  all_goals rfl
theorem e_spec_AreMarks (n : Nat) {R1} {l : List Mark} [H1 : EncL cMark R1 l] : CP T (n + 3) 188 [.imm 2 R1] = (spec_AreMarks l).map fun r => .b r := by
  obtain ⟨rfl⟩ := H1
  rw [CP_eq]
  simp -dsimp +contextual only [↓evA, evB, evT, tys, encs, Nat.reduceAdd, Nat.reduceMul, Nat.reduceBEq, Nat.reduceLeDiff, Nat.reduceLT, Tryz.func188, Tryz.f188, a188, TP, TZ, orc_p, orc_l, orc_a, orc_m, e_spec_AreMarks_l2]
  try simp only [spec_AreMarks, evT, encs, c_js, r_map_some, e_need_t]
  all_goals rfl
theorem e_spec_AreSecrets_l2 (n : Nat) {R1} {l : List Secret} (t3 : Int) [H1 : EncL cSecret R1 l] : LP T (n + 4) 149 2 (frm [(0, .imm 3 R1), (3, .i .i64 t3)]) [] =
    lmap (run (spec_AreSecrets_l2 l) t3) (fun (zr : Bool) => (XE.ret, frm [(2, .b zr)], [])) (fun (zr : Unit) => (XE.exit 0, frm [(0, .imm 3 (l.map cSecret))], [])) := by
  obtain ⟨rfl⟩ := H1
  rw [LP_eq]
  simp -dsimp only [↓evA, evB, lpG_eq, Tryz.func149, Tryz.f149, a149, TP, TZ, Nat.reduceAdd, Nat.reduceMul, Nat.reduceBEq, Nat.reduceLeDiff, Nat.reduceLT]
  refine run_map (fun (zs : Int) => (frm [(0, .imm 3 (l.map cSecret)), (3, .i .i64 zs)], [])) (evO (fun (zr : Bool) => (XE.ret, frm [(2, .b zr)], [])) (fun (zr : Unit) => (XE.exit 0, frm [(0, .imm 3 (l.map cSecret))], []))) ?_ t3
  intro t3
  simp -dsimp +contextual only [↓evA, evB, evT, tys, encs, Nat.reduceAdd, Nat.reduceMul, Nat.reduceBEq, Nat.reduceLeDiff, Nat.reduceLT, TP, TZ, orc_p, orc_l, orc_a, orc_m, e_spec_l1In, e_spec_AreMarks]
  try simp only [spec_AreSecrets_l2, evT, encs, c_js, r_map_some, e_need_t]
  all_goals rfl
theorem e_spec_AreSecrets (n : Nat) {R1} {l : List Secret} [H1 : EncL cSecret R1 l] : CP T (n + 5) 149 [.imm 3 R1] = (spec_AreSecrets l).map fun r => .b r := by
  obtain ⟨rfl⟩ := H1
  rw [CP_eq]
  simp -dsimp +contextual only [↓evA, evB, evT, tys, encs, Nat.reduceAdd, Nat.reduceMul, Nat.reduceBEq, Nat.reduceLeDiff, Nat.reduceLT, Tryz.func149, Tryz.f149, a149, TP, TZ, orc_p, orc_l, orc_a, orc_m, e_spec_AreSecrets_l2]
  try simp only [spec_AreSecrets, evT, encs, c_js, r_map_some, e_need_t]
  all_goals rfl
theorem e_spec_AreSlots_l7 (n : Nat) {R1} {l : List Slot} (t3 : Int) (t4 : Int) [H1 : EncL cSlot R1 l] : LP T (n + 1) 150 7 (frm [(0, .imm 3 R1), (3, .i .i64 t3), (4, .i .i64 t4)]) [] =
    lmap (run (spec_AreSlots_l7 l t3) t4) (fun (zr : Bool) => (XE.ret, frm [(2, .b zr)], [])) (fun (zr : Unit) => (XE.exit 2, frm [(0, .imm 3 (l.map cSlot)), (3, .i .i64 t3)], [])) := by
  obtain ⟨rfl⟩ := H1
  rw [LP_eq]
  simp -dsimp only [↓evA, evB, lpG_eq, Tryz.func150, Tryz.f150, a150, TP, TZ, Nat.reduceAdd, Nat.reduceMul, Nat.reduceBEq, Nat.reduceLeDiff, Nat.reduceLT]
  refine run_map (fun (zs : Int) => (frm [(0, .imm 3 (l.map cSlot)), (3, .i .i64 t3), (4, .i .i64 zs)], [])) (evO (fun (zr : Bool) => (XE.ret, frm [(2, .b zr)], [])) (fun (zr : Unit) => (XE.exit 2, frm [(0, .imm 3 (l.map cSlot)), (3, .i .i64 t3)], []))) ?_ t4
  intro t4
  simp -dsimp +contextual only [↓evA, evB, evT, tys, encs, Nat.reduceAdd, Nat.reduceMul, Nat.reduceBEq, Nat.reduceLeDiff, Nat.reduceLT, TP, TZ, orc_p, orc_l, orc_a, orc_m]
  try simp only [spec_AreSlots_l7, evT, encs, c_js, r_map_some, e_need_t]
  all_goals rfl
theorem e_spec_AreSlots_l2 (n : Nat) {R1} {l : List Slot} (t3 : Int) [H1 : EncL cSlot R1 l] : LP T (n + 2) 150 2 (frm [(0, .imm 3 R1), (3, .i .i64 t3)]) [] =
    lmap (run (spec_AreSlots_l2 l) t3) (fun (zr : Bool) => (XE.ret, frm [(2, .b zr)], [])) (fun (zr : Unit) => (XE.exit 0, frm [(0, .imm 3 (l.map cSlot))], [])) := by
  obtain ⟨rfl⟩ := H1
  rw [LP_eq]
  simp -dsimp only [↓evA, evB, lpG_eq, Tryz.func150, Tryz.f150, a150, TP, TZ, Nat.reduceAdd, Nat.reduceMul, Nat.reduceBEq, Nat.reduceLeDiff, Nat.reduceLT]
  refine run_map (fun (zs : Int) => (frm [(0, .imm 3 (l.map cSlot)), (3, .i .i64 zs)], [])) (evO (fun (zr : Bool) => (XE.ret, frm [(2, .b zr)], [])) (fun (zr : Unit) => (XE.exit 0, frm [(0, .imm 3 (l.map cSlot))], []))) ?_ t3
  intro t3
  simp -dsimp +contextual only [↓evA, evB, evT, tys, encs, Nat.reduceAdd, Nat.reduceMul, Nat.reduceBEq, Nat.reduceLeDiff, Nat.reduceLT, TP, TZ, orc_p, orc_l, orc_a, orc_m, e_spec_l1In, e_spec_AreSlots_l7]
  try simp only [spec_AreSlots_l2, evT, encs, c_js, r_map_some, e_need_t]
  all_goals rfl
theorem e_spec_AreSlots (n : Nat) {R1} {l : List Slot} [H1 : EncL cSlot R1 l] : CP T (n + 3) 150 [.imm 3 R1] = (spec_AreSlots l).map fun r => .b r := by
  obtain ⟨rfl⟩ := H1
  rw [CP_eq]
  simp -dsimp +contextual only [↓evA, evB, evT, tys, encs, Nat.reduceAdd, Nat.reduceMul, Nat.reduceBEq, Nat.reduceLeDiff, Nat.reduceLT, Tryz.func150, Tryz.f150, a150, TP, TZ, orc_p, orc_l, orc_a, orc_m, e_spec_AreSlots_l2]
  try simp only [spec_AreSlots, evT, encs, c_js, r_map_some, e_need_t]
  all_goals rfl
theorem e_spec_AreClaims_l8 (n : Nat) {R1} {l : List Claim} (t3 : Int) (t4xId : Int) (t4xWho : Int) (t4xThing : Int) (t4xAt : Int) (t4xState : Int) (t5 : Int) [H1 : EncL cClaim R1 l] : LP T (n + 1) 151 8 (frm [(0, .imm 5 R1), (3, .i .i64 t3), (4, .ptr 0 0 0), (5, .i .i64 t5)]) [some (Ent.box [.i .i64 t4xId, .i .i64 t4xWho, .i .i64 t4xThing, .i .i64 t4xAt, .i .i64 t4xState])] =
    lmap (run (spec_AreClaims_l8 l t3 (⟨t4xId, t4xWho, t4xThing, t4xAt, t4xState⟩ : Claim)) t5) (fun (zr : Bool) => (XE.ret, frm [(2, .b zr)], [])) (fun (zr : Unit) => (XE.exit 2, frm [(0, .imm 5 (l.map cClaim)), (3, .i .i64 t3)], [])) := by
  obtain ⟨rfl⟩ := H1
  rw [LP_eq]
  simp -dsimp only [↓evA, evB, lpG_eq, Tryz.func151, Tryz.f151, a151, TP, TZ, Nat.reduceAdd, Nat.reduceMul, Nat.reduceBEq, Nat.reduceLeDiff, Nat.reduceLT]
  refine run_map (fun (zs : Int) => (frm [(0, .imm 5 (l.map cClaim)), (3, .i .i64 t3), (4, .ptr 0 0 0), (5, .i .i64 zs)], [some (Ent.box [.i .i64 (⟨t4xId, t4xWho, t4xThing, t4xAt, t4xState⟩ : Claim).Id, .i .i64 (⟨t4xId, t4xWho, t4xThing, t4xAt, t4xState⟩ : Claim).Who, .i .i64 (⟨t4xId, t4xWho, t4xThing, t4xAt, t4xState⟩ : Claim).Thing, .i .i64 (⟨t4xId, t4xWho, t4xThing, t4xAt, t4xState⟩ : Claim).At, .i .i64 (⟨t4xId, t4xWho, t4xThing, t4xAt, t4xState⟩ : Claim).State])])) (evO (fun (zr : Bool) => (XE.ret, frm [(2, .b zr)], [])) (fun (zr : Unit) => (XE.exit 2, frm [(0, .imm 5 (l.map cClaim)), (3, .i .i64 t3)], []))) ?_ t5
  intro t5
  simp -dsimp +contextual only [↓evA, evB, evT, tys, encs, Nat.reduceAdd, Nat.reduceMul, Nat.reduceBEq, Nat.reduceLeDiff, Nat.reduceLT, TP, TZ, orc_p, orc_l, orc_a, orc_m]
  try simp only [spec_AreClaims_l8, evT, encs, c_js, r_map_some, e_need_t]
  all_goals rfl
theorem e_spec_AreClaims_l2 (n : Nat) {R1} {l : List Claim} (t3 : Int) [H1 : EncL cClaim R1 l] : LP T (n + 2) 151 2 (frm [(0, .imm 5 R1), (3, .i .i64 t3)]) [] =
    lmap (run (spec_AreClaims_l2 l) t3) (fun (zr : Bool) => (XE.ret, frm [(2, .b zr)], [])) (fun (zr : Unit) => (XE.exit 0, frm [(0, .imm 5 (l.map cClaim))], [])) := by
  obtain ⟨rfl⟩ := H1
  rw [LP_eq]
  simp -dsimp only [↓evA, evB, lpG_eq, Tryz.func151, Tryz.f151, a151, TP, TZ, Nat.reduceAdd, Nat.reduceMul, Nat.reduceBEq, Nat.reduceLeDiff, Nat.reduceLT]
  refine run_map (fun (zs : Int) => (frm [(0, .imm 5 (l.map cClaim)), (3, .i .i64 zs)], [])) (evO (fun (zr : Bool) => (XE.ret, frm [(2, .b zr)], [])) (fun (zr : Unit) => (XE.exit 0, frm [(0, .imm 5 (l.map cClaim))], []))) ?_ t3
  intro t3
  simp -dsimp +contextual only [↓evA, evB, evT, tys, encs, Nat.reduceAdd, Nat.reduceMul, Nat.reduceBEq, Nat.reduceLeDiff, Nat.reduceLT, TP, TZ, orc_p, orc_l, orc_a, orc_m, e_spec_l1In, e_spec_AreClaims_l8]
  try simp only [spec_AreClaims_l2, evT, encs, c_js, r_map_some, e_need_t]
  all_goals rfl
theorem e_spec_AreClaims (n : Nat) {R1} {l : List Claim} [H1 : EncL cClaim R1 l] : CP T (n + 3) 151 [.imm 5 R1] = (spec_AreClaims l).map fun r => .b r := by
  obtain ⟨rfl⟩ := H1
  rw [CP_eq]
  simp -dsimp +contextual only [↓evA, evB, evT, tys, encs, Nat.reduceAdd, Nat.reduceMul, Nat.reduceBEq, Nat.reduceLeDiff, Nat.reduceLT, Tryz.func151, Tryz.f151, a151, TP, TZ, orc_p, orc_l, orc_a, orc_m, e_spec_AreClaims_l2]
  try simp only [spec_AreClaims, evT, encs, c_js, r_map_some, e_need_t]
  all_goals rfl
theorem e_spec_Mod (n : Nat) (vn : Int) (m : Int) : CP T (n + 2) 267 [.i .i64 vn, .i .i64 m] = (spec_Mod vn m).map fun r => .i .i64 r := by
  rw [CP_eq]
  simp -dsimp +contextual only [↓evA, evB, evT, tys, encs, Nat.reduceAdd, Nat.reduceMul, Nat.reduceBEq, Nat.reduceLeDiff, Nat.reduceLT, Tryz.func267, Tryz.f267, a267, TP, TZ, orc_p, orc_l, orc_a, orc_m, e_spec_l1In]
  try simp only [spec_Mod, evT, encs, c_js, r_map_some, e_need_t]
  all_goals rfl
theorem e_spec_Hash_l3 (n : Nat) {R1} {l : List Int} (d : Int) (i : Int) [H1 : EncL c_i64 R1 l] : LP T (n + 3) 251 3 (frm [(0, .imm 1 R1), (3, .i .i64 d), (4, .i .i64 i)]) [] =
    (run (spec_Hash_l3 l) (d, i)).map (fun (zr : Int) => (XE.exit 0, frm [(3, .i .i64 zr)], [])) := by
  obtain ⟨rfl⟩ := H1
  rw [LP_eq]
  simp -dsimp only [↓evA, evB, lpG_eq, Tryz.func251, Tryz.f251, a251, TP, TZ, Nat.reduceAdd, Nat.reduceMul, Nat.reduceBEq, Nat.reduceLeDiff, Nat.reduceLT]
  refine run_map (fun (zs : Int × Int) => (frm [(0, .imm 1 (l.map c_i64)), (3, .i .i64 zs.1), (4, .i .i64 zs.2)], [])) (fun (zr : Int) => (XE.exit 0, frm [(3, .i .i64 zr)], [])) ?_ (d, i)
  rintro ⟨d, i⟩
  simp -dsimp +contextual only [↓evA, evB, evT, tys, encs, Nat.reduceAdd, Nat.reduceMul, Nat.reduceBEq, Nat.reduceLeDiff, Nat.reduceLT, TP, TZ, orc_p, orc_l, orc_a, orc_m, e_spec_Mod]
  try simp only [spec_Hash_l3, evT, encs, c_js, r_map_some, e_need_t]
  all_goals rfl
theorem e_spec_Hash (n : Nat) {R1} {l : List Int} [H1 : EncL c_i64 R1 l] : CP T (n + 4) 251 [.imm 1 R1] = (spec_Hash l).map fun r => .i .i64 r := by
  obtain ⟨rfl⟩ := H1
  rw [CP_eq]
  simp -dsimp +contextual only [↓evA, evB, evT, tys, encs, Nat.reduceAdd, Nat.reduceMul, Nat.reduceBEq, Nat.reduceLeDiff, Nat.reduceLT, Tryz.func251, Tryz.f251, a251, TP, TZ, orc_p, orc_l, orc_a, orc_m, e_spec_Hash_l3]
  try simp only [spec_Hash, evT, encs, c_js, r_map_some, e_need_t]
  all_goals rfl
theorem e_spec_HandSeal (n : Nat) (before : Int) (xxThing : Int) (xxHolder : Int) (xxWho : Int) (xxAt : Int) (xxSeal : Int) : CP T (n + 5) 217 [.i .i64 before, .agg [.i .i64 xxThing, .i .i64 xxHolder, .i .i64 xxWho, .i .i64 xxAt, .i .i64 xxSeal]] = (spec_HandSeal before (⟨xxThing, xxHolder, xxWho, xxAt, xxSeal⟩ : Hand)).map fun r => .i .i64 r := by
  rw [CP_eq]
  simp -dsimp +contextual only [↓evA, evB, evT, tys, encs, Nat.reduceAdd, Nat.reduceMul, Nat.reduceBEq, Nat.reduceLeDiff, Nat.reduceLT, Tryz.func217, Tryz.f217, a217, TP, TZ, orc_p, orc_l, orc_a, orc_m, e_spec_Hash]
  try simp only [spec_HandSeal, evT, encs, c_js, r_map_some, e_need_t]
  all_goals rfl
theorem e_spec_l16Last_l3 (n : Nat) {R1} {l : List Hand} (thing : Int) (before : Int) (k : Int) (i : Int) [H1 : EncL cHand R1 l] : LP T (n + 1) 230 3 (frm [(0, .imm 5 R1), (1, .i .i64 thing), (2, .i .i64 before), (7, .i .i64 k), (8, .i .i64 i)]) [] =
    (run (spec_l16Last_l3 l thing before) (k, i)).map (fun (zr : Int) => (XE.exit 0, frm [(7, .i .i64 zr)], [])) := by
  obtain ⟨rfl⟩ := H1
  rw [LP_eq]
  simp -dsimp only [↓evA, evB, lpG_eq, Tryz.func230, Tryz.f230, a230, TP, TZ, Nat.reduceAdd, Nat.reduceMul, Nat.reduceBEq, Nat.reduceLeDiff, Nat.reduceLT]
  refine run_map (fun (zs : Int × Int) => (frm [(0, .imm 5 (l.map cHand)), (1, .i .i64 thing), (2, .i .i64 before), (7, .i .i64 zs.1), (8, .i .i64 zs.2)], [])) (fun (zr : Int) => (XE.exit 0, frm [(7, .i .i64 zr)], [])) ?_ (k, i)
  rintro ⟨k, i⟩
  simp -dsimp +contextual only [↓evA, evB, evT, tys, encs, Nat.reduceAdd, Nat.reduceMul, Nat.reduceBEq, Nat.reduceLeDiff, Nat.reduceLT, TP, TZ, orc_p, orc_l, orc_a, orc_m]
  try simp only [spec_l16Last_l3, evT, encs, c_js, r_map_some, e_need_t]
  all_goals rfl
theorem e_spec_l16Last (n : Nat) {R1} {l : List Hand} (thing : Int) (before : Int) [H1 : EncL cHand R1 l] : CP T (n + 2) 230 [.imm 5 R1, .i .i64 thing, .i .i64 before] = (spec_l16Last l thing before).map fun r => .i .i64 r := by
  obtain ⟨rfl⟩ := H1
  rw [CP_eq]
  simp -dsimp +contextual only [↓evA, evB, evT, tys, encs, Nat.reduceAdd, Nat.reduceMul, Nat.reduceBEq, Nat.reduceLeDiff, Nat.reduceLT, Tryz.func230, Tryz.f230, a230, TP, TZ, orc_p, orc_l, orc_a, orc_m, e_spec_l16Last_l3]
  try simp only [spec_l16Last, evT, encs, c_js, r_map_some, e_need_t]
  all_goals rfl
theorem e_spec_IsChain_l3 (n : Nat) {R1} {l : List Hand} (t3 : Int) (t4 : Int) [H1 : EncL cHand R1 l] : LP T (n + 6) 152 3 (frm [(0, .imm 5 R1), (3, .i .i64 t3), (4, .i .i64 t4)]) [] =
    lmap (run (spec_IsChain_l3 l) (t3, t4)) (fun (zr : Bool) => (XE.ret, frm [(2, .b zr)], [])) (fun (zr : Unit) => (XE.exit 0, frm [(0, .imm 5 (l.map cHand))], [])) := by
  obtain ⟨rfl⟩ := H1
  rw [LP_eq]
  simp -dsimp only [↓evA, evB, lpG_eq, Tryz.func152, Tryz.f152, a152, TP, TZ, Nat.reduceAdd, Nat.reduceMul, Nat.reduceBEq, Nat.reduceLeDiff, Nat.reduceLT]
  refine run_map (fun (zs : Int × Int) => (frm [(0, .imm 5 (l.map cHand)), (3, .i .i64 zs.1), (4, .i .i64 zs.2)], [])) (evO (fun (zr : Bool) => (XE.ret, frm [(2, .b zr)], [])) (fun (zr : Unit) => (XE.exit 0, frm [(0, .imm 5 (l.map cHand))], []))) ?_ (t3, t4)
  rintro ⟨t3, t4⟩
  simp -dsimp +contextual only [↓evA, evB, evT, tys, encs, Nat.reduceAdd, Nat.reduceMul, Nat.reduceBEq, Nat.reduceLeDiff, Nat.reduceLT, TP, TZ, orc_p, orc_l, orc_a, orc_m, e_spec_HandSeal, e_spec_l1In, e_spec_l16Last]
  try simp only [spec_IsChain_l3, evT, encs, c_js, r_map_some, e_need_t]
  all_goals rfl
theorem e_spec_IsChain (n : Nat) {R1} {l : List Hand} [H1 : EncL cHand R1 l] : CP T (n + 7) 152 [.imm 5 R1] = (spec_IsChain l).map fun r => .b r := by
  obtain ⟨rfl⟩ := H1
  rw [CP_eq]
  simp -dsimp +contextual only [↓evA, evB, evT, tys, encs, Nat.reduceAdd, Nat.reduceMul, Nat.reduceBEq, Nat.reduceLeDiff, Nat.reduceLT, Tryz.func152, Tryz.f152, a152, TP, TZ, orc_p, orc_l, orc_a, orc_m, e_spec_IsChain_l3]
  try simp only [spec_IsChain, evT, encs, c_js, r_map_some, e_need_t]
  all_goals rfl
theorem e_spec_AreEntries_l2 (n : Nat) {R1} {l : List Entry} (i : Int) [H1 : EncL cEntry R1 l] : LP T (n + 2) 153 2 (frm [(0, .imm 4 R1), (3, .i .i64 i)]) [] =
    lmap (run (spec_AreEntries_l2 l) i) (fun (zr : Bool) => (XE.ret, frm [(2, .b zr)], [])) (fun (zr : Unit) => (XE.exit 0, frm [(0, .imm 4 (l.map cEntry))], [])) := by
  obtain ⟨rfl⟩ := H1
  rw [LP_eq]
  simp -dsimp only [↓evA, evB, lpG_eq, Tryz.func153, Tryz.f153, a153, TP, TZ, Nat.reduceAdd, Nat.reduceMul, Nat.reduceBEq, Nat.reduceLeDiff, Nat.reduceLT]
  refine run_map (fun (zs : Int) => (frm [(0, .imm 4 (l.map cEntry)), (3, .i .i64 zs)], [])) (evO (fun (zr : Bool) => (XE.ret, frm [(2, .b zr)], [])) (fun (zr : Unit) => (XE.exit 0, frm [(0, .imm 4 (l.map cEntry))], []))) ?_ i
  intro i
  simp -dsimp +contextual only [↓evA, evB, evT, tys, encs, Nat.reduceAdd, Nat.reduceMul, Nat.reduceBEq, Nat.reduceLeDiff, Nat.reduceLT, TP, TZ, orc_p, orc_l, orc_a, orc_m, e_spec_l1In]
  try simp only [spec_AreEntries_l2, evT, encs, c_js, r_map_some, e_need_t]
  all_goals rfl
theorem e_spec_AreEntries (n : Nat) {R1} {l : List Entry} [H1 : EncL cEntry R1 l] : CP T (n + 3) 153 [.imm 4 R1] = (spec_AreEntries l).map fun r => .b r := by
  obtain ⟨rfl⟩ := H1
  rw [CP_eq]
  simp -dsimp +contextual only [↓evA, evB, evT, tys, encs, Nat.reduceAdd, Nat.reduceMul, Nat.reduceBEq, Nat.reduceLeDiff, Nat.reduceLT, Tryz.func153, Tryz.f153, a153, TP, TZ, orc_p, orc_l, orc_a, orc_m, e_spec_AreEntries_l2]
  try simp only [spec_AreEntries, evT, encs, c_js, r_map_some, e_need_t]
  all_goals rfl
theorem e_spec_l9Put_l2 (n : Nat) {R1} {l : List Int} (vn : Int) (k : Int) [H1 : EncL c_i64 R1 l] : LP T (n + 1) 264 2 (frm [(0, .imm 1 R1), (1, .i .i64 vn), (5, .i .i64 k)]) [] =
    (run (spec_l9Put_l2 l vn) k).map (fun (zr : Int) => (XE.exit 0, frm [(0, .imm 1 (l.map c_i64)), (1, .i .i64 vn), (5, .i .i64 zr)], [])) := by
  obtain ⟨rfl⟩ := H1
  rw [LP_eq]
  simp -dsimp only [↓evA, evB, lpG_eq, Tryz.func264, Tryz.f264, a264, TP, TZ, Nat.reduceAdd, Nat.reduceMul, Nat.reduceBEq, Nat.reduceLeDiff, Nat.reduceLT]
  refine run_map (fun (zs : Int) => (frm [(0, .imm 1 (l.map c_i64)), (1, .i .i64 vn), (5, .i .i64 zs)], [])) (fun (zr : Int) => (XE.exit 0, frm [(0, .imm 1 (l.map c_i64)), (1, .i .i64 vn), (5, .i .i64 zr)], [])) ?_ k
  intro k
  simp -dsimp +contextual only [↓evA, evB, evT, tys, encs, Nat.reduceAdd, Nat.reduceMul, Nat.reduceBEq, Nat.reduceLeDiff, Nat.reduceLT, TP, TZ, orc_p, orc_l, orc_a, orc_m]
  try simp only [spec_l9Put_l2, evT, encs, c_js, r_map_some, e_need_t]
  try simp only [List.contains_nil, Bool.not_false, Bool.and_true, e_need_t, List.length_append, List.length_cons, List.length_nil, Nat.zero_add, need_comm, oeq_self]
  all_goals rfl
theorem e_spec_l9Put (n : Nat) {R1} {l : List Int} (vn : Int) [H1 : EncL c_i64 R1 l] : CP T (n + 2) 264 [.imm 1 R1, .i .i64 vn] = (spec_l9Put l vn).map fun r => .own 1 (r.map c_i64) := by
  obtain ⟨rfl⟩ := H1
  rw [CP_eq]
  simp -dsimp +contextual only [↓evA, evB, evT, tys, encs, Nat.reduceAdd, Nat.reduceMul, Nat.reduceBEq, Nat.reduceLeDiff, Nat.reduceLT, Tryz.func264, Tryz.f264, a264, TP, TZ, orc_p, orc_l, orc_a, orc_m, e_spec_l9Put_l2]
  try simp only [spec_l9Put, evT, encs, c_js, r_map_some, e_need_t]
  try simp only [List.contains_nil, Bool.not_false, Bool.and_true, e_need_t, List.length_append, List.length_cons, List.length_nil, Nat.zero_add, need_comm, oeq_self]
  all_goals rfl
theorem e_spec_InHouse_l3 (n : Nat) {R1} {l : List Hand} (house : Int) {R2} {out : List Int} (i : Int) [H1 : EncL cHand R1 l] [H2 : EncL c_i64 R2 out] : LP T (n + 8) 231 3 (frm [(0, .imm 5 R1), (1, .i .i64 house), (5, .sl 0), (6, .i .i64 i)]) [some (Ent.lst 1 R2)] =
    (run (spec_InHouse_l3 l house) (out, i)).map (fun (zr : (List Int)) => (XE.exit 0, frm [(5, .sl 0)], [some (Ent.lst 1 (zr.map c_i64))])) := by
  obtain ⟨rfl⟩ := H1
  obtain ⟨rfl⟩ := H2
  rw [LP_eq]
  simp -dsimp only [↓evA, evB, lpG_eq, Tryz.func231, Tryz.f231, a231, TP, TZ, Nat.reduceAdd, Nat.reduceMul, Nat.reduceBEq, Nat.reduceLeDiff, Nat.reduceLT]
  refine run_map (fun (zs : (List Int) × Int) => (frm [(0, .imm 5 (l.map cHand)), (1, .i .i64 house), (5, .sl 0), (6, .i .i64 zs.2)], [some (Ent.lst 1 (zs.1.map c_i64))])) (fun (zr : (List Int)) => (XE.exit 0, frm [(5, .sl 0)], [some (Ent.lst 1 (zr.map c_i64))])) ?_ (out, i)
  rintro ⟨out, i⟩
  simp -dsimp +contextual only [↓evA, evB, evT, tys, encs, Nat.reduceAdd, Nat.reduceMul, Nat.reduceBEq, Nat.reduceLeDiff, Nat.reduceLT, TP, TZ, orc_p, orc_l, orc_a, orc_m, e_spec_IsChain, e_spec_l16Last, e_spec_l9Put]
  try simp only [spec_InHouse_l3, evT, encs, c_js, r_map_some, e_need_t]
  all_goals rfl
theorem e_spec_InHouse (n : Nat) {R1} {l : List Hand} (house : Int) [H1 : EncL cHand R1 l] : CP T (n + 9) 231 [.imm 5 R1, .i .i64 house] = (spec_InHouse l house).map fun r => .own 1 (r.map c_i64) := by
  obtain ⟨rfl⟩ := H1
  rw [CP_eq]
  simp -dsimp +contextual only [↓evA, evB, evT, tys, encs, Nat.reduceAdd, Nat.reduceMul, Nat.reduceBEq, Nat.reduceLeDiff, Nat.reduceLT, Tryz.func231, Tryz.f231, a231, TP, TZ, orc_p, orc_l, orc_a, orc_m, e_spec_InHouse_l3]
  try simp only [spec_InHouse, evT, encs, c_js, r_map_some, e_need_t]
  all_goals rfl
theorem e_spec_FindThing_l2 (n : Nat) {R1} {l : List Find} (id : Int) (i : Int) [H1 : EncL cFind R1 l] : LP T (n + 1) 117 2 (frm [(0, .imm 8 R1), (1, .i .i64 id), (5, .i .i64 i)]) [] =
    lmap (run (spec_FindThing_l2 l id) i) (fun (zr : Int) => (XE.ret, frm [(4, .i .i64 zr)], [])) (fun (zr : Unit) => (XE.exit 0, frm [], [])) := by
  obtain ⟨rfl⟩ := H1
  rw [LP_eq]
  simp -dsimp only [↓evA, evB, lpG_eq, Tryz.func117, Tryz.f117, a117, TP, TZ, Nat.reduceAdd, Nat.reduceMul, Nat.reduceBEq, Nat.reduceLeDiff, Nat.reduceLT]
  refine run_map (fun (zs : Int) => (frm [(0, .imm 8 (l.map cFind)), (1, .i .i64 id), (5, .i .i64 zs)], [])) (evO (fun (zr : Int) => (XE.ret, frm [(4, .i .i64 zr)], [])) (fun (zr : Unit) => (XE.exit 0, frm [], []))) ?_ i
  intro i
  simp -dsimp +contextual only [↓evA, evB, evT, tys, encs, Nat.reduceAdd, Nat.reduceMul, Nat.reduceBEq, Nat.reduceLeDiff, Nat.reduceLT, TP, TZ, orc_p, orc_l, orc_a, orc_m]
  try simp only [spec_FindThing_l2, evT, encs, c_js, r_map_some, e_need_t]
  all_goals rfl
theorem e_spec_FindThing (n : Nat) {R1} {l : List Find} (id : Int) [H1 : EncL cFind R1 l] : CP T (n + 2) 117 [.imm 8 R1, .i .i64 id] = (spec_FindThing l id).map fun r => .i .i64 r := by
  obtain ⟨rfl⟩ := H1
  rw [CP_eq]
  simp -dsimp +contextual only [↓evA, evB, evT, tys, encs, Nat.reduceAdd, Nat.reduceMul, Nat.reduceBEq, Nat.reduceLeDiff, Nat.reduceLT, Tryz.func117, Tryz.f117, a117, TP, TZ, orc_p, orc_l, orc_a, orc_m, e_spec_FindThing_l2]
  try simp only [spec_FindThing, evT, encs, c_js, r_map_some, e_need_t]
  all_goals rfl
theorem e_spec_SlotOf_l2 (n : Nat) {R1} {l : List Slot} (thing : Int) (i : Int) [H1 : EncL cSlot R1 l] : LP T (n + 1) 112 2 (frm [(0, .imm 3 R1), (1, .i .i64 thing), (5, .i .i64 i)]) [] =
    lmap (run (spec_SlotOf_l2 l thing) i) (fun (zr : Int) => (XE.ret, frm [(4, .i .i64 zr)], [])) (fun (zr : Unit) => (XE.exit 0, frm [], [])) := by
  obtain ⟨rfl⟩ := H1
  rw [LP_eq]
  simp -dsimp only [↓evA, evB, lpG_eq, Tryz.func112, Tryz.f112, a112, TP, TZ, Nat.reduceAdd, Nat.reduceMul, Nat.reduceBEq, Nat.reduceLeDiff, Nat.reduceLT]
  refine run_map (fun (zs : Int) => (frm [(0, .imm 3 (l.map cSlot)), (1, .i .i64 thing), (5, .i .i64 zs)], [])) (evO (fun (zr : Int) => (XE.ret, frm [(4, .i .i64 zr)], [])) (fun (zr : Unit) => (XE.exit 0, frm [], []))) ?_ i
  intro i
  simp -dsimp +contextual only [↓evA, evB, evT, tys, encs, Nat.reduceAdd, Nat.reduceMul, Nat.reduceBEq, Nat.reduceLeDiff, Nat.reduceLT, TP, TZ, orc_p, orc_l, orc_a, orc_m]
  try simp only [spec_SlotOf_l2, evT, encs, c_js, r_map_some, e_need_t]
  all_goals rfl
theorem e_spec_SlotOf (n : Nat) {R1} {l : List Slot} (thing : Int) [H1 : EncL cSlot R1 l] : CP T (n + 2) 112 [.imm 3 R1, .i .i64 thing] = (spec_SlotOf l thing).map fun r => .i .i64 r := by
  obtain ⟨rfl⟩ := H1
  rw [CP_eq]
  simp -dsimp +contextual only [↓evA, evB, evT, tys, encs, Nat.reduceAdd, Nat.reduceMul, Nat.reduceBEq, Nat.reduceLeDiff, Nat.reduceLT, Tryz.func112, Tryz.f112, a112, TP, TZ, orc_p, orc_l, orc_a, orc_m, e_spec_SlotOf_l2]
  try simp only [spec_SlotOf, evT, encs, c_js, r_map_some, e_need_t]
  all_goals rfl
theorem e_spec_l8Has_l2 (n : Nat) {R1} {l : List Int} (vn : Int) (i : Int) [H1 : EncL c_i64 R1 l] : LP T (n + 1) 232 2 (frm [(0, .imm 1 R1), (1, .i .i64 vn), (5, .i .i64 i)]) [] =
    lmap (run (spec_l8Has_l2 l vn) i) (fun (zr : Bool) => (XE.ret, frm [(4, .b zr)], [])) (fun (zr : Unit) => (XE.exit 0, frm [], [])) := by
  obtain ⟨rfl⟩ := H1
  rw [LP_eq]
  simp -dsimp only [↓evA, evB, lpG_eq, Tryz.func232, Tryz.f232, a232, TP, TZ, Nat.reduceAdd, Nat.reduceMul, Nat.reduceBEq, Nat.reduceLeDiff, Nat.reduceLT]
  refine run_map (fun (zs : Int) => (frm [(0, .imm 1 (l.map c_i64)), (1, .i .i64 vn), (5, .i .i64 zs)], [])) (evO (fun (zr : Bool) => (XE.ret, frm [(4, .b zr)], [])) (fun (zr : Unit) => (XE.exit 0, frm [], []))) ?_ i
  intro i
  simp -dsimp +contextual only [↓evA, evB, evT, tys, encs, Nat.reduceAdd, Nat.reduceMul, Nat.reduceBEq, Nat.reduceLeDiff, Nat.reduceLT, TP, TZ, orc_p, orc_l, orc_a, orc_m]
  try simp only [spec_l8Has_l2, evT, encs, c_js, r_map_some, e_need_t]
  all_goals rfl
theorem e_spec_l8Has (n : Nat) {R1} {l : List Int} (vn : Int) [H1 : EncL c_i64 R1 l] : CP T (n + 2) 232 [.imm 1 R1, .i .i64 vn] = (spec_l8Has l vn).map fun r => .b r := by
  obtain ⟨rfl⟩ := H1
  rw [CP_eq]
  simp -dsimp +contextual only [↓evA, evB, evT, tys, encs, Nat.reduceAdd, Nat.reduceMul, Nat.reduceBEq, Nat.reduceLeDiff, Nat.reduceLT, Tryz.func232, Tryz.f232, a232, TP, TZ, orc_p, orc_l, orc_a, orc_m, e_spec_l8Has_l2]
  try simp only [spec_l8Has, evT, encs, c_js, r_map_some, e_need_t]
  all_goals rfl
theorem e_spec_l33Things_l5 (n : Nat) (t1xNo : Int) {R1} {t1xFinds : List Find} {R2} {t1xSecrets : List Secret} {R3} {t1xSlots : List Slot} {R4} {t1xClaims : List Claim} {R5} {t1xTrials : List Trial} {R6} {t1xChain : List Hand} {R7} {t1xBook : List Entry} (t1xNow : Int) {R8} {t3 : List Int} (t4 : Int) [H1 : EncL cFind R1 t1xFinds] [H2 : EncL cSecret R2 t1xSecrets] [H3 : EncL cSlot R3 t1xSlots] [H4 : EncL cClaim R4 t1xClaims] [H5 : EncL cTrial R5 t1xTrials] [H6 : EncL cHand R6 t1xChain] [H7 : EncL cEntry R7 t1xBook] [H8 : EncL c_i64 R8 t3] : LP T (n + 3) 154 5 (frm [(1, .ptr 0 0 0), (3, .sl 1), (4, .i .i64 t4)]) [some (Ent.box [.i .i64 t1xNo, .imm 8 R1, .imm 3 R2, .imm 3 R3, .imm 5 R4, .imm 4 R5, .imm 5 R6, .imm 4 R7, .i .i64 t1xNow]), some (Ent.lst 1 R8)] =
    lmap (run (spec_l33Things_l5 (⟨t1xNo, t1xFinds, t1xSecrets, t1xSlots, t1xClaims, t1xTrials, t1xChain, t1xBook, t1xNow⟩ : House) t3) t4) (fun (zr : Bool) => (XE.ret, frm [(2, .b zr)], [])) (fun (zr : Unit) => (XE.exit 0, frm [(1, .ptr 0 0 0), (3, .sl 1)], [some (Ent.box [.i .i64 (⟨t1xNo, t1xFinds, t1xSecrets, t1xSlots, t1xClaims, t1xTrials, t1xChain, t1xBook, t1xNow⟩ : House).No, .imm 8 ((⟨t1xNo, t1xFinds, t1xSecrets, t1xSlots, t1xClaims, t1xTrials, t1xChain, t1xBook, t1xNow⟩ : House).Finds.map cFind), .imm 3 ((⟨t1xNo, t1xFinds, t1xSecrets, t1xSlots, t1xClaims, t1xTrials, t1xChain, t1xBook, t1xNow⟩ : House).Secrets.map cSecret), .imm 3 ((⟨t1xNo, t1xFinds, t1xSecrets, t1xSlots, t1xClaims, t1xTrials, t1xChain, t1xBook, t1xNow⟩ : House).Slots.map cSlot), .imm 5 ((⟨t1xNo, t1xFinds, t1xSecrets, t1xSlots, t1xClaims, t1xTrials, t1xChain, t1xBook, t1xNow⟩ : House).Claims.map cClaim), .imm 4 ((⟨t1xNo, t1xFinds, t1xSecrets, t1xSlots, t1xClaims, t1xTrials, t1xChain, t1xBook, t1xNow⟩ : House).Trials.map cTrial), .imm 5 ((⟨t1xNo, t1xFinds, t1xSecrets, t1xSlots, t1xClaims, t1xTrials, t1xChain, t1xBook, t1xNow⟩ : House).Chain.map cHand), .imm 4 ((⟨t1xNo, t1xFinds, t1xSecrets, t1xSlots, t1xClaims, t1xTrials, t1xChain, t1xBook, t1xNow⟩ : House).Book.map cEntry), .i .i64 (⟨t1xNo, t1xFinds, t1xSecrets, t1xSlots, t1xClaims, t1xTrials, t1xChain, t1xBook, t1xNow⟩ : House).Now]), some (Ent.lst 1 (t3.map c_i64))])) := by
  obtain ⟨rfl⟩ := H1
  obtain ⟨rfl⟩ := H2
  obtain ⟨rfl⟩ := H3
  obtain ⟨rfl⟩ := H4
  obtain ⟨rfl⟩ := H5
  obtain ⟨rfl⟩ := H6
  obtain ⟨rfl⟩ := H7
  obtain ⟨rfl⟩ := H8
  rw [LP_eq]
  simp -dsimp only [↓evA, evB, lpG_eq, Tryz.func154, Tryz.f154, a154, TP, TZ, Nat.reduceAdd, Nat.reduceMul, Nat.reduceBEq, Nat.reduceLeDiff, Nat.reduceLT]
  refine run_map (fun (zs : Int) => (frm [(1, .ptr 0 0 0), (3, .sl 1), (4, .i .i64 zs)], [some (Ent.box [.i .i64 (⟨t1xNo, t1xFinds, t1xSecrets, t1xSlots, t1xClaims, t1xTrials, t1xChain, t1xBook, t1xNow⟩ : House).No, .imm 8 ((⟨t1xNo, t1xFinds, t1xSecrets, t1xSlots, t1xClaims, t1xTrials, t1xChain, t1xBook, t1xNow⟩ : House).Finds.map cFind), .imm 3 ((⟨t1xNo, t1xFinds, t1xSecrets, t1xSlots, t1xClaims, t1xTrials, t1xChain, t1xBook, t1xNow⟩ : House).Secrets.map cSecret), .imm 3 ((⟨t1xNo, t1xFinds, t1xSecrets, t1xSlots, t1xClaims, t1xTrials, t1xChain, t1xBook, t1xNow⟩ : House).Slots.map cSlot), .imm 5 ((⟨t1xNo, t1xFinds, t1xSecrets, t1xSlots, t1xClaims, t1xTrials, t1xChain, t1xBook, t1xNow⟩ : House).Claims.map cClaim), .imm 4 ((⟨t1xNo, t1xFinds, t1xSecrets, t1xSlots, t1xClaims, t1xTrials, t1xChain, t1xBook, t1xNow⟩ : House).Trials.map cTrial), .imm 5 ((⟨t1xNo, t1xFinds, t1xSecrets, t1xSlots, t1xClaims, t1xTrials, t1xChain, t1xBook, t1xNow⟩ : House).Chain.map cHand), .imm 4 ((⟨t1xNo, t1xFinds, t1xSecrets, t1xSlots, t1xClaims, t1xTrials, t1xChain, t1xBook, t1xNow⟩ : House).Book.map cEntry), .i .i64 (⟨t1xNo, t1xFinds, t1xSecrets, t1xSlots, t1xClaims, t1xTrials, t1xChain, t1xBook, t1xNow⟩ : House).Now]), some (Ent.lst 1 (t3.map c_i64))])) (evO (fun (zr : Bool) => (XE.ret, frm [(2, .b zr)], [])) (fun (zr : Unit) => (XE.exit 0, frm [(1, .ptr 0 0 0), (3, .sl 1)], [some (Ent.box [.i .i64 (⟨t1xNo, t1xFinds, t1xSecrets, t1xSlots, t1xClaims, t1xTrials, t1xChain, t1xBook, t1xNow⟩ : House).No, .imm 8 ((⟨t1xNo, t1xFinds, t1xSecrets, t1xSlots, t1xClaims, t1xTrials, t1xChain, t1xBook, t1xNow⟩ : House).Finds.map cFind), .imm 3 ((⟨t1xNo, t1xFinds, t1xSecrets, t1xSlots, t1xClaims, t1xTrials, t1xChain, t1xBook, t1xNow⟩ : House).Secrets.map cSecret), .imm 3 ((⟨t1xNo, t1xFinds, t1xSecrets, t1xSlots, t1xClaims, t1xTrials, t1xChain, t1xBook, t1xNow⟩ : House).Slots.map cSlot), .imm 5 ((⟨t1xNo, t1xFinds, t1xSecrets, t1xSlots, t1xClaims, t1xTrials, t1xChain, t1xBook, t1xNow⟩ : House).Claims.map cClaim), .imm 4 ((⟨t1xNo, t1xFinds, t1xSecrets, t1xSlots, t1xClaims, t1xTrials, t1xChain, t1xBook, t1xNow⟩ : House).Trials.map cTrial), .imm 5 ((⟨t1xNo, t1xFinds, t1xSecrets, t1xSlots, t1xClaims, t1xTrials, t1xChain, t1xBook, t1xNow⟩ : House).Chain.map cHand), .imm 4 ((⟨t1xNo, t1xFinds, t1xSecrets, t1xSlots, t1xClaims, t1xTrials, t1xChain, t1xBook, t1xNow⟩ : House).Book.map cEntry), .i .i64 (⟨t1xNo, t1xFinds, t1xSecrets, t1xSlots, t1xClaims, t1xTrials, t1xChain, t1xBook, t1xNow⟩ : House).Now]), some (Ent.lst 1 (t3.map c_i64))]))) ?_ t4
  intro t4
  simp -dsimp +contextual only [↓evA, evB, evT, tys, encs, Nat.reduceAdd, Nat.reduceMul, Nat.reduceBEq, Nat.reduceLeDiff, Nat.reduceLT, TP, TZ, orc_p, orc_l, orc_a, orc_m, e_spec_FindThing]
  try simp only [spec_l33Things_l5, evT, encs, c_js, r_map_some, e_need_t]
  all_goals rfl
theorem e_spec_l33Things_l10 (n : Nat) (t1xNo : Int) {R1} {t1xFinds : List Find} {R2} {t1xSecrets : List Secret} {R3} {t1xSlots : List Slot} {R4} {t1xClaims : List Claim} {R5} {t1xTrials : List Trial} {R6} {t1xChain : List Hand} {R7} {t1xBook : List Entry} (t1xNow : Int) {R8} {t3 : List Int} (t5 : Int) [H1 : EncL cFind R1 t1xFinds] [H2 : EncL cSecret R2 t1xSecrets] [H3 : EncL cSlot R3 t1xSlots] [H4 : EncL cClaim R4 t1xClaims] [H5 : EncL cTrial R5 t1xTrials] [H6 : EncL cHand R6 t1xChain] [H7 : EncL cEntry R7 t1xBook] [H8 : EncL c_i64 R8 t3] : LP T (n + 3) 154 10 (frm [(1, .ptr 0 0 0), (3, .sl 1), (5, .i .i64 t5)]) [some (Ent.box [.i .i64 t1xNo, .imm 8 R1, .imm 3 R2, .imm 3 R3, .imm 5 R4, .imm 4 R5, .imm 5 R6, .imm 4 R7, .i .i64 t1xNow]), some (Ent.lst 1 R8)] =
    lmap (run (spec_l33Things_l10 (⟨t1xNo, t1xFinds, t1xSecrets, t1xSlots, t1xClaims, t1xTrials, t1xChain, t1xBook, t1xNow⟩ : House) t3) t5) (fun (zr : Bool) => (XE.ret, frm [(2, .b zr)], [])) (fun (zr : Unit) => (XE.exit 2, frm [(1, .ptr 0 0 0)], [some (Ent.box [.i .i64 (⟨t1xNo, t1xFinds, t1xSecrets, t1xSlots, t1xClaims, t1xTrials, t1xChain, t1xBook, t1xNow⟩ : House).No, .imm 8 ((⟨t1xNo, t1xFinds, t1xSecrets, t1xSlots, t1xClaims, t1xTrials, t1xChain, t1xBook, t1xNow⟩ : House).Finds.map cFind), .imm 3 ((⟨t1xNo, t1xFinds, t1xSecrets, t1xSlots, t1xClaims, t1xTrials, t1xChain, t1xBook, t1xNow⟩ : House).Secrets.map cSecret), .imm 3 ((⟨t1xNo, t1xFinds, t1xSecrets, t1xSlots, t1xClaims, t1xTrials, t1xChain, t1xBook, t1xNow⟩ : House).Slots.map cSlot), .imm 5 ((⟨t1xNo, t1xFinds, t1xSecrets, t1xSlots, t1xClaims, t1xTrials, t1xChain, t1xBook, t1xNow⟩ : House).Claims.map cClaim), .imm 4 ((⟨t1xNo, t1xFinds, t1xSecrets, t1xSlots, t1xClaims, t1xTrials, t1xChain, t1xBook, t1xNow⟩ : House).Trials.map cTrial), .imm 5 ((⟨t1xNo, t1xFinds, t1xSecrets, t1xSlots, t1xClaims, t1xTrials, t1xChain, t1xBook, t1xNow⟩ : House).Chain.map cHand), .imm 4 ((⟨t1xNo, t1xFinds, t1xSecrets, t1xSlots, t1xClaims, t1xTrials, t1xChain, t1xBook, t1xNow⟩ : House).Book.map cEntry), .i .i64 (⟨t1xNo, t1xFinds, t1xSecrets, t1xSlots, t1xClaims, t1xTrials, t1xChain, t1xBook, t1xNow⟩ : House).Now])])) := by
  obtain ⟨rfl⟩ := H1
  obtain ⟨rfl⟩ := H2
  obtain ⟨rfl⟩ := H3
  obtain ⟨rfl⟩ := H4
  obtain ⟨rfl⟩ := H5
  obtain ⟨rfl⟩ := H6
  obtain ⟨rfl⟩ := H7
  obtain ⟨rfl⟩ := H8
  rw [LP_eq]
  simp -dsimp only [↓evA, evB, lpG_eq, Tryz.func154, Tryz.f154, a154, TP, TZ, Nat.reduceAdd, Nat.reduceMul, Nat.reduceBEq, Nat.reduceLeDiff, Nat.reduceLT]
  refine run_map (fun (zs : Int) => (frm [(1, .ptr 0 0 0), (3, .sl 1), (5, .i .i64 zs)], [some (Ent.box [.i .i64 (⟨t1xNo, t1xFinds, t1xSecrets, t1xSlots, t1xClaims, t1xTrials, t1xChain, t1xBook, t1xNow⟩ : House).No, .imm 8 ((⟨t1xNo, t1xFinds, t1xSecrets, t1xSlots, t1xClaims, t1xTrials, t1xChain, t1xBook, t1xNow⟩ : House).Finds.map cFind), .imm 3 ((⟨t1xNo, t1xFinds, t1xSecrets, t1xSlots, t1xClaims, t1xTrials, t1xChain, t1xBook, t1xNow⟩ : House).Secrets.map cSecret), .imm 3 ((⟨t1xNo, t1xFinds, t1xSecrets, t1xSlots, t1xClaims, t1xTrials, t1xChain, t1xBook, t1xNow⟩ : House).Slots.map cSlot), .imm 5 ((⟨t1xNo, t1xFinds, t1xSecrets, t1xSlots, t1xClaims, t1xTrials, t1xChain, t1xBook, t1xNow⟩ : House).Claims.map cClaim), .imm 4 ((⟨t1xNo, t1xFinds, t1xSecrets, t1xSlots, t1xClaims, t1xTrials, t1xChain, t1xBook, t1xNow⟩ : House).Trials.map cTrial), .imm 5 ((⟨t1xNo, t1xFinds, t1xSecrets, t1xSlots, t1xClaims, t1xTrials, t1xChain, t1xBook, t1xNow⟩ : House).Chain.map cHand), .imm 4 ((⟨t1xNo, t1xFinds, t1xSecrets, t1xSlots, t1xClaims, t1xTrials, t1xChain, t1xBook, t1xNow⟩ : House).Book.map cEntry), .i .i64 (⟨t1xNo, t1xFinds, t1xSecrets, t1xSlots, t1xClaims, t1xTrials, t1xChain, t1xBook, t1xNow⟩ : House).Now]), some (Ent.lst 1 (t3.map c_i64))])) (evO (fun (zr : Bool) => (XE.ret, frm [(2, .b zr)], [])) (fun (zr : Unit) => (XE.exit 2, frm [(1, .ptr 0 0 0)], [some (Ent.box [.i .i64 (⟨t1xNo, t1xFinds, t1xSecrets, t1xSlots, t1xClaims, t1xTrials, t1xChain, t1xBook, t1xNow⟩ : House).No, .imm 8 ((⟨t1xNo, t1xFinds, t1xSecrets, t1xSlots, t1xClaims, t1xTrials, t1xChain, t1xBook, t1xNow⟩ : House).Finds.map cFind), .imm 3 ((⟨t1xNo, t1xFinds, t1xSecrets, t1xSlots, t1xClaims, t1xTrials, t1xChain, t1xBook, t1xNow⟩ : House).Secrets.map cSecret), .imm 3 ((⟨t1xNo, t1xFinds, t1xSecrets, t1xSlots, t1xClaims, t1xTrials, t1xChain, t1xBook, t1xNow⟩ : House).Slots.map cSlot), .imm 5 ((⟨t1xNo, t1xFinds, t1xSecrets, t1xSlots, t1xClaims, t1xTrials, t1xChain, t1xBook, t1xNow⟩ : House).Claims.map cClaim), .imm 4 ((⟨t1xNo, t1xFinds, t1xSecrets, t1xSlots, t1xClaims, t1xTrials, t1xChain, t1xBook, t1xNow⟩ : House).Trials.map cTrial), .imm 5 ((⟨t1xNo, t1xFinds, t1xSecrets, t1xSlots, t1xClaims, t1xTrials, t1xChain, t1xBook, t1xNow⟩ : House).Chain.map cHand), .imm 4 ((⟨t1xNo, t1xFinds, t1xSecrets, t1xSlots, t1xClaims, t1xTrials, t1xChain, t1xBook, t1xNow⟩ : House).Book.map cEntry), .i .i64 (⟨t1xNo, t1xFinds, t1xSecrets, t1xSlots, t1xClaims, t1xTrials, t1xChain, t1xBook, t1xNow⟩ : House).Now])]))) ?_ t5
  intro t5
  simp -dsimp +contextual only [↓evA, evB, evT, tys, encs, Nat.reduceAdd, Nat.reduceMul, Nat.reduceBEq, Nat.reduceLeDiff, Nat.reduceLT, TP, TZ, orc_p, orc_l, orc_a, orc_m, e_spec_SlotOf, e_spec_l8Has]
  try simp only [spec_l33Things_l10, evT, encs, c_js, r_map_some, e_need_t]
  all_goals rfl
theorem e_spec_l33Things_l16 (n : Nat) (t1xNo : Int) {R1} {t1xFinds : List Find} {R2} {t1xSecrets : List Secret} {R3} {t1xSlots : List Slot} {R4} {t1xClaims : List Claim} {R5} {t1xTrials : List Trial} {R6} {t1xChain : List Hand} {R7} {t1xBook : List Entry} (t1xNow : Int) (t7 : Int) [H1 : EncL cFind R1 t1xFinds] [H2 : EncL cSecret R2 t1xSecrets] [H3 : EncL cSlot R3 t1xSlots] [H4 : EncL cClaim R4 t1xClaims] [H5 : EncL cTrial R5 t1xTrials] [H6 : EncL cHand R6 t1xChain] [H7 : EncL cEntry R7 t1xBook] : LP T (n + 3) 154 16 (frm [(1, .ptr 0 0 0), (7, .i .i64 t7)]) [some (Ent.box [.i .i64 t1xNo, .imm 8 R1, .imm 3 R2, .imm 3 R3, .imm 5 R4, .imm 4 R5, .imm 5 R6, .imm 4 R7, .i .i64 t1xNow])] =
    lmap (run (spec_l33Things_l16 (⟨t1xNo, t1xFinds, t1xSecrets, t1xSlots, t1xClaims, t1xTrials, t1xChain, t1xBook, t1xNow⟩ : House)) t7) (fun (zr : Bool) => (XE.ret, frm [(2, .b zr)], [])) (fun (zr : Unit) => (XE.exit 4, frm [], [])) := by
  obtain ⟨rfl⟩ := H1
  obtain ⟨rfl⟩ := H2
  obtain ⟨rfl⟩ := H3
  obtain ⟨rfl⟩ := H4
  obtain ⟨rfl⟩ := H5
  obtain ⟨rfl⟩ := H6
  obtain ⟨rfl⟩ := H7
  rw [LP_eq]
  simp -dsimp only [↓evA, evB, lpG_eq, Tryz.func154, Tryz.f154, a154, TP, TZ, Nat.reduceAdd, Nat.reduceMul, Nat.reduceBEq, Nat.reduceLeDiff, Nat.reduceLT]
  refine run_map (fun (zs : Int) => (frm [(1, .ptr 0 0 0), (7, .i .i64 zs)], [some (Ent.box [.i .i64 (⟨t1xNo, t1xFinds, t1xSecrets, t1xSlots, t1xClaims, t1xTrials, t1xChain, t1xBook, t1xNow⟩ : House).No, .imm 8 ((⟨t1xNo, t1xFinds, t1xSecrets, t1xSlots, t1xClaims, t1xTrials, t1xChain, t1xBook, t1xNow⟩ : House).Finds.map cFind), .imm 3 ((⟨t1xNo, t1xFinds, t1xSecrets, t1xSlots, t1xClaims, t1xTrials, t1xChain, t1xBook, t1xNow⟩ : House).Secrets.map cSecret), .imm 3 ((⟨t1xNo, t1xFinds, t1xSecrets, t1xSlots, t1xClaims, t1xTrials, t1xChain, t1xBook, t1xNow⟩ : House).Slots.map cSlot), .imm 5 ((⟨t1xNo, t1xFinds, t1xSecrets, t1xSlots, t1xClaims, t1xTrials, t1xChain, t1xBook, t1xNow⟩ : House).Claims.map cClaim), .imm 4 ((⟨t1xNo, t1xFinds, t1xSecrets, t1xSlots, t1xClaims, t1xTrials, t1xChain, t1xBook, t1xNow⟩ : House).Trials.map cTrial), .imm 5 ((⟨t1xNo, t1xFinds, t1xSecrets, t1xSlots, t1xClaims, t1xTrials, t1xChain, t1xBook, t1xNow⟩ : House).Chain.map cHand), .imm 4 ((⟨t1xNo, t1xFinds, t1xSecrets, t1xSlots, t1xClaims, t1xTrials, t1xChain, t1xBook, t1xNow⟩ : House).Book.map cEntry), .i .i64 (⟨t1xNo, t1xFinds, t1xSecrets, t1xSlots, t1xClaims, t1xTrials, t1xChain, t1xBook, t1xNow⟩ : House).Now])])) (evO (fun (zr : Bool) => (XE.ret, frm [(2, .b zr)], [])) (fun (zr : Unit) => (XE.exit 4, frm [], []))) ?_ t7
  intro t7
  simp -dsimp +contextual only [↓evA, evB, evT, tys, encs, Nat.reduceAdd, Nat.reduceMul, Nat.reduceBEq, Nat.reduceLeDiff, Nat.reduceLT, TP, TZ, orc_p, orc_l, orc_a, orc_m, e_spec_FindThing]
  try simp only [spec_l33Things_l16, evT, encs, c_js, r_map_some, e_need_t]
  all_goals rfl
theorem e_spec_l33Things (n : Nat) (vhxNo : Int) {R1} {vhxFinds : List Find} {R2} {vhxSecrets : List Secret} {R3} {vhxSlots : List Slot} {R4} {vhxClaims : List Claim} {R5} {vhxTrials : List Trial} {R6} {vhxChain : List Hand} {R7} {vhxBook : List Entry} (vhxNow : Int) [H1 : EncL cFind R1 vhxFinds] [H2 : EncL cSecret R2 vhxSecrets] [H3 : EncL cSlot R3 vhxSlots] [H4 : EncL cClaim R4 vhxClaims] [H5 : EncL cTrial R5 vhxTrials] [H6 : EncL cHand R6 vhxChain] [H7 : EncL cEntry R7 vhxBook] : CP T (n + 10) 154 [.agg [.i .i64 vhxNo, .imm 8 R1, .imm 3 R2, .imm 3 R3, .imm 5 R4, .imm 4 R5, .imm 5 R6, .imm 4 R7, .i .i64 vhxNow]] = (spec_l33Things (⟨vhxNo, vhxFinds, vhxSecrets, vhxSlots, vhxClaims, vhxTrials, vhxChain, vhxBook, vhxNow⟩ : House)).map fun r => .b r := by
  obtain ⟨rfl⟩ := H1
  obtain ⟨rfl⟩ := H2
  obtain ⟨rfl⟩ := H3
  obtain ⟨rfl⟩ := H4
  obtain ⟨rfl⟩ := H5
  obtain ⟨rfl⟩ := H6
  obtain ⟨rfl⟩ := H7
  rw [CP_eq]
  simp -dsimp +contextual only [↓evA, evB, evT, tys, encs, Nat.reduceAdd, Nat.reduceMul, Nat.reduceBEq, Nat.reduceLeDiff, Nat.reduceLT, Tryz.func154, Tryz.f154, a154, TP, TZ, orc_p, orc_l, orc_a, orc_m, e_spec_InHouse, e_spec_l33Things_l5, e_spec_l33Things_l10, e_spec_l33Things_l16]
  try simp only [spec_l33Things, evT, encs, c_js, r_map_some, e_need_t]
  all_goals rfl
theorem e_spec_IsTrial (n : Nat) (xxClaim : Int) (xxAsked : Int) (xxRight : Int) (xxWrong : Int) : CP T (n + 2) 187 [.agg [.i .i64 xxClaim, .i .i64 xxAsked, .i .i64 xxRight, .i .i64 xxWrong]] = (spec_IsTrial (⟨xxClaim, xxAsked, xxRight, xxWrong⟩ : Trial)).map fun r => .b r := by
  rw [CP_eq]
  simp -dsimp +contextual only [↓evA, evB, evT, tys, encs, Nat.reduceAdd, Nat.reduceMul, Nat.reduceBEq, Nat.reduceLeDiff, Nat.reduceLT, Tryz.func187, Tryz.f187, a187, TP, TZ, orc_p, orc_l, orc_a, orc_m, e_spec_l1In]
  try simp only [spec_IsTrial, evT, encs, c_js, r_map_some, e_need_t]
  all_goals rfl
theorem e_spec_l31Find_l2 (n : Nat) {R1} {l : List Secret} (thing : Int) (i : Int) [H1 : EncL cSecret R1 l] : LP T (n + 1) 184 2 (frm [(0, .imm 3 R1), (1, .i .i64 thing), (5, .i .i64 i)]) [] =
    lmap (run (spec_l31Find_l2 l thing) i) (fun (zr : Int) => (XE.ret, frm [(4, .i .i64 zr)], [])) (fun (zr : Unit) => (XE.exit 0, frm [], [])) := by
  obtain ⟨rfl⟩ := H1
  rw [LP_eq]
  simp -dsimp only [↓evA, evB, lpG_eq, Tryz.func184, Tryz.f184, a184, TP, TZ, Nat.reduceAdd, Nat.reduceMul, Nat.reduceBEq, Nat.reduceLeDiff, Nat.reduceLT]
  refine run_map (fun (zs : Int) => (frm [(0, .imm 3 (l.map cSecret)), (1, .i .i64 thing), (5, .i .i64 zs)], [])) (evO (fun (zr : Int) => (XE.ret, frm [(4, .i .i64 zr)], [])) (fun (zr : Unit) => (XE.exit 0, frm [], []))) ?_ i
  intro i
  simp -dsimp +contextual only [↓evA, evB, evT, tys, encs, Nat.reduceAdd, Nat.reduceMul, Nat.reduceBEq, Nat.reduceLeDiff, Nat.reduceLT, TP, TZ, orc_p, orc_l, orc_a, orc_m]
  try simp only [spec_l31Find_l2, evT, encs, c_js, r_map_some, e_need_t]
  all_goals rfl
theorem e_spec_l31Find (n : Nat) {R1} {l : List Secret} (thing : Int) [H1 : EncL cSecret R1 l] : CP T (n + 2) 184 [.imm 3 R1, .i .i64 thing] = (spec_l31Find l thing).map fun r => .i .i64 r := by
  obtain ⟨rfl⟩ := H1
  rw [CP_eq]
  simp -dsimp +contextual only [↓evA, evB, evT, tys, encs, Nat.reduceAdd, Nat.reduceMul, Nat.reduceBEq, Nat.reduceLeDiff, Nat.reduceLT, Tryz.func184, Tryz.f184, a184, TP, TZ, orc_p, orc_l, orc_a, orc_m, e_spec_l31Find_l2]
  try simp only [spec_l31Find, evT, encs, c_js, r_map_some, e_need_t]
  all_goals rfl
theorem e_spec_MarksOf (n : Nat) {R1} {l : List Secret} (thing : Int) [H1 : EncL cSecret R1 l] : CP T (n + 3) 103 [.imm 3 R1, .i .i64 thing] = (spec_MarksOf l thing).map fun r => .own 2 (r.map cMark) := by
  obtain ⟨rfl⟩ := H1
  rw [CP_eq]
  simp -dsimp +contextual only [↓evA, evB, evT, tys, encs, Nat.reduceAdd, Nat.reduceMul, Nat.reduceBEq, Nat.reduceLeDiff, Nat.reduceLT, Tryz.func103, Tryz.f103, a103, TP, TZ, orc_p, orc_l, orc_a, orc_m, e_spec_l31Find]
  try simp only [spec_MarksOf, evT, encs, c_js, r_map_some, e_need_t]
  all_goals rfl
theorem e_spec_Min (n : Nat) (a : Int) (b : Int) : CP T (n + 1) 209 [.i .i64 a, .i .i64 b] = (spec_Min a b).map fun r => .i .i64 r := by
  rw [CP_eq]
  simp -dsimp +contextual only [↓evA, evB, evT, tys, encs, Nat.reduceAdd, Nat.reduceMul, Nat.reduceBEq, Nat.reduceLeDiff, Nat.reduceLT, Tryz.func209, Tryz.f209, a209, TP, TZ, orc_p, orc_l, orc_a, orc_m]
  try simp only [spec_Min, evT, encs, c_js, r_map_some, e_need_t]
  all_goals rfl
theorem e_spec_NeedFor (n : Nat) {R1} {l : List Mark} [H1 : EncL cMark R1 l] : CP T (n + 2) 189 [.imm 2 R1] = (spec_NeedFor l).map fun r => .i .i64 r := by
  obtain ⟨rfl⟩ := H1
  rw [CP_eq]
  simp -dsimp +contextual only [↓evA, evB, evT, tys, encs, Nat.reduceAdd, Nat.reduceMul, Nat.reduceBEq, Nat.reduceLeDiff, Nat.reduceLT, Tryz.func189, Tryz.f189, a189, TP, TZ, orc_p, orc_l, orc_a, orc_m, e_spec_Min]
  try simp only [spec_NeedFor, evT, encs, c_js, r_map_some, e_need_t]
  all_goals rfl
theorem e_spec_TrialState (n : Nat) {R1} {l : List Mark} (xxClaim : Int) (xxAsked : Int) (xxRight : Int) (xxWrong : Int) [H1 : EncL cMark R1 l] : CP T (n + 4) 105 [.imm 2 R1, .agg [.i .i64 xxClaim, .i .i64 xxAsked, .i .i64 xxRight, .i .i64 xxWrong]] = (spec_TrialState l (⟨xxClaim, xxAsked, xxRight, xxWrong⟩ : Trial)).map fun r => .i .i64 r := by
  obtain ⟨rfl⟩ := H1
  rw [CP_eq]
  simp -dsimp +contextual only [↓evA, evB, evT, tys, encs, Nat.reduceAdd, Nat.reduceMul, Nat.reduceBEq, Nat.reduceLeDiff, Nat.reduceLT, Tryz.func105, Tryz.f105, a105, TP, TZ, orc_p, orc_l, orc_a, orc_m, e_spec_IsTrial, e_spec_AreMarks, e_spec_NeedFor]
  try simp only [spec_TrialState, evT, encs, c_js, r_map_some, e_need_t]
  all_goals rfl
theorem e_spec_l33Claims_l4 (n : Nat) (t1xNo : Int) {R1} {t1xFinds : List Find} {R2} {t1xSecrets : List Secret} {R3} {t1xSlots : List Slot} {R4} {t1xClaims : List Claim} {R5} {t1xTrials : List Trial} {R6} {t1xChain : List Hand} {R7} {t1xBook : List Entry} (t1xNow : Int) (t3 : Int) [H1 : EncL cFind R1 t1xFinds] [H2 : EncL cSecret R2 t1xSecrets] [H3 : EncL cSlot R3 t1xSlots] [H4 : EncL cClaim R4 t1xClaims] [H5 : EncL cTrial R5 t1xTrials] [H6 : EncL cHand R6 t1xChain] [H7 : EncL cEntry R7 t1xBook] : LP T (n + 5) 155 4 (frm [(1, .ptr 0 0 0), (3, .i .i64 t3)]) [some (Ent.box [.i .i64 t1xNo, .imm 8 R1, .imm 3 R2, .imm 3 R3, .imm 5 R4, .imm 4 R5, .imm 5 R6, .imm 4 R7, .i .i64 t1xNow])] =
    lmap (run (spec_l33Claims_l4 (⟨t1xNo, t1xFinds, t1xSecrets, t1xSlots, t1xClaims, t1xTrials, t1xChain, t1xBook, t1xNow⟩ : House)) t3) (fun (zr : Bool) => (XE.ret, frm [(2, .b zr)], [])) (fun (zr : Unit) => (XE.exit 0, frm [], [])) := by
  obtain ⟨rfl⟩ := H1
  obtain ⟨rfl⟩ := H2
  obtain ⟨rfl⟩ := H3
  obtain ⟨rfl⟩ := H4
  obtain ⟨rfl⟩ := H5
  obtain ⟨rfl⟩ := H6
  obtain ⟨rfl⟩ := H7
  rw [LP_eq]
  simp -dsimp only [↓evA, evB, lpG_eq, Tryz.func155, Tryz.f155, a155, TP, TZ, Nat.reduceAdd, Nat.reduceMul, Nat.reduceBEq, Nat.reduceLeDiff, Nat.reduceLT]
  refine run_map (fun (zs : Int) => (frm [(1, .ptr 0 0 0), (3, .i .i64 zs)], [some (Ent.box [.i .i64 (⟨t1xNo, t1xFinds, t1xSecrets, t1xSlots, t1xClaims, t1xTrials, t1xChain, t1xBook, t1xNow⟩ : House).No, .imm 8 ((⟨t1xNo, t1xFinds, t1xSecrets, t1xSlots, t1xClaims, t1xTrials, t1xChain, t1xBook, t1xNow⟩ : House).Finds.map cFind), .imm 3 ((⟨t1xNo, t1xFinds, t1xSecrets, t1xSlots, t1xClaims, t1xTrials, t1xChain, t1xBook, t1xNow⟩ : House).Secrets.map cSecret), .imm 3 ((⟨t1xNo, t1xFinds, t1xSecrets, t1xSlots, t1xClaims, t1xTrials, t1xChain, t1xBook, t1xNow⟩ : House).Slots.map cSlot), .imm 5 ((⟨t1xNo, t1xFinds, t1xSecrets, t1xSlots, t1xClaims, t1xTrials, t1xChain, t1xBook, t1xNow⟩ : House).Claims.map cClaim), .imm 4 ((⟨t1xNo, t1xFinds, t1xSecrets, t1xSlots, t1xClaims, t1xTrials, t1xChain, t1xBook, t1xNow⟩ : House).Trials.map cTrial), .imm 5 ((⟨t1xNo, t1xFinds, t1xSecrets, t1xSlots, t1xClaims, t1xTrials, t1xChain, t1xBook, t1xNow⟩ : House).Chain.map cHand), .imm 4 ((⟨t1xNo, t1xFinds, t1xSecrets, t1xSlots, t1xClaims, t1xTrials, t1xChain, t1xBook, t1xNow⟩ : House).Book.map cEntry), .i .i64 (⟨t1xNo, t1xFinds, t1xSecrets, t1xSlots, t1xClaims, t1xTrials, t1xChain, t1xBook, t1xNow⟩ : House).Now])])) (evO (fun (zr : Bool) => (XE.ret, frm [(2, .b zr)], [])) (fun (zr : Unit) => (XE.exit 0, frm [], []))) ?_ t3
  intro t3
  simp -dsimp +contextual only [↓evA, evB, evT, tys, encs, Nat.reduceAdd, Nat.reduceMul, Nat.reduceBEq, Nat.reduceLeDiff, Nat.reduceLT, TP, TZ, orc_p, orc_l, orc_a, orc_m, e_spec_FindThing, e_spec_IsTrial, e_spec_MarksOf, e_spec_TrialState]
  try simp only [spec_l33Claims_l4, evT, encs, c_js, r_map_some, e_need_t]
  all_goals rfl
theorem e_spec_l33Claims (n : Nat) (vhxNo : Int) {R1} {vhxFinds : List Find} {R2} {vhxSecrets : List Secret} {R3} {vhxSlots : List Slot} {R4} {vhxClaims : List Claim} {R5} {vhxTrials : List Trial} {R6} {vhxChain : List Hand} {R7} {vhxBook : List Entry} (vhxNow : Int) [H1 : EncL cFind R1 vhxFinds] [H2 : EncL cSecret R2 vhxSecrets] [H3 : EncL cSlot R3 vhxSlots] [H4 : EncL cClaim R4 vhxClaims] [H5 : EncL cTrial R5 vhxTrials] [H6 : EncL cHand R6 vhxChain] [H7 : EncL cEntry R7 vhxBook] : CP T (n + 6) 155 [.agg [.i .i64 vhxNo, .imm 8 R1, .imm 3 R2, .imm 3 R3, .imm 5 R4, .imm 4 R5, .imm 5 R6, .imm 4 R7, .i .i64 vhxNow]] = (spec_l33Claims (⟨vhxNo, vhxFinds, vhxSecrets, vhxSlots, vhxClaims, vhxTrials, vhxChain, vhxBook, vhxNow⟩ : House)).map fun r => .b r := by
  obtain ⟨rfl⟩ := H1
  obtain ⟨rfl⟩ := H2
  obtain ⟨rfl⟩ := H3
  obtain ⟨rfl⟩ := H4
  obtain ⟨rfl⟩ := H5
  obtain ⟨rfl⟩ := H6
  obtain ⟨rfl⟩ := H7
  rw [CP_eq]
  simp -dsimp +contextual only [↓evA, evB, evT, tys, encs, Nat.reduceAdd, Nat.reduceMul, Nat.reduceBEq, Nat.reduceLeDiff, Nat.reduceLT, Tryz.func155, Tryz.f155, a155, TP, TZ, orc_p, orc_l, orc_a, orc_m, e_spec_l33Claims_l4]
  try simp only [spec_l33Claims, evT, encs, c_js, r_map_some, e_need_t]
  all_goals rfl
theorem e_spec_IsHouse (n : Nat) (vhxNo : Int) {R1} {vhxFinds : List Find} {R2} {vhxSecrets : List Secret} {R3} {vhxSlots : List Slot} {R4} {vhxClaims : List Claim} {R5} {vhxTrials : List Trial} {R6} {vhxChain : List Hand} {R7} {vhxBook : List Entry} (vhxNow : Int) [H1 : EncL cFind R1 vhxFinds] [H2 : EncL cSecret R2 vhxSecrets] [H3 : EncL cSlot R3 vhxSlots] [H4 : EncL cClaim R4 vhxClaims] [H5 : EncL cTrial R5 vhxTrials] [H6 : EncL cHand R6 vhxChain] [H7 : EncL cEntry R7 vhxBook] : CP T (n + 11) 60 [.agg [.i .i64 vhxNo, .imm 8 R1, .imm 3 R2, .imm 3 R3, .imm 5 R4, .imm 4 R5, .imm 5 R6, .imm 4 R7, .i .i64 vhxNow]] = (spec_IsHouse (⟨vhxNo, vhxFinds, vhxSecrets, vhxSlots, vhxClaims, vhxTrials, vhxChain, vhxBook, vhxNow⟩ : House)).map fun r => .b r := by
  obtain ⟨rfl⟩ := H1
  obtain ⟨rfl⟩ := H2
  obtain ⟨rfl⟩ := H3
  obtain ⟨rfl⟩ := H4
  obtain ⟨rfl⟩ := H5
  obtain ⟨rfl⟩ := H6
  obtain ⟨rfl⟩ := H7
  rw [CP_eq]
  simp -dsimp +contextual only [↓evA, evB, evT, tys, encs, Nat.reduceAdd, Nat.reduceMul, Nat.reduceBEq, Nat.reduceLeDiff, Nat.reduceLT, Tryz.func60, Tryz.f60, a60, TP, TZ, orc_p, orc_l, orc_a, orc_m, e_spec_l1In, e_spec_AreFinds, e_spec_AreSecrets, e_spec_AreSlots, e_spec_AreClaims, e_spec_IsChain, e_spec_AreEntries, e_spec_l33Things, e_spec_l33Claims]
  try simp only [spec_IsHouse, evT, encs, c_js, r_map_some, e_need_t]
  all_goals rfl
theorem e_spec_FreeSlots_l3 (n : Nat) {R1} {l : List Slot} (vn : Int) (i : Int) [H1 : EncL cSlot R1 l] : LP T (n + 1) 61 3 (frm [(0, .imm 3 R1), (3, .i .i64 vn), (4, .i .i64 i)]) [] =
    (run (spec_FreeSlots_l3 l) (vn, i)).map (fun (zr : Int) => (XE.exit 0, frm [(3, .i .i64 zr)], [])) := by
  obtain ⟨rfl⟩ := H1
  rw [LP_eq]
  simp -dsimp only [↓evA, evB, lpG_eq, Tryz.func61, Tryz.f61, a61, TP, TZ, Nat.reduceAdd, Nat.reduceMul, Nat.reduceBEq, Nat.reduceLeDiff, Nat.reduceLT]
  refine run_map (fun (zs : Int × Int) => (frm [(0, .imm 3 (l.map cSlot)), (3, .i .i64 zs.1), (4, .i .i64 zs.2)], [])) (fun (zr : Int) => (XE.exit 0, frm [(3, .i .i64 zr)], [])) ?_ (vn, i)
  rintro ⟨vn, i⟩
  simp -dsimp +contextual only [↓evA, evB, evT, tys, encs, Nat.reduceAdd, Nat.reduceMul, Nat.reduceBEq, Nat.reduceLeDiff, Nat.reduceLT, TP, TZ, orc_p, orc_l, orc_a, orc_m]
  try simp only [spec_FreeSlots_l3, evT, encs, c_js, r_map_some, e_need_t]
  all_goals rfl
theorem e_spec_FreeSlots (n : Nat) {R1} {l : List Slot} [H1 : EncL cSlot R1 l] : CP T (n + 2) 61 [.imm 3 R1] = (spec_FreeSlots l).map fun r => .i .i64 r := by
  obtain ⟨rfl⟩ := H1
  rw [CP_eq]
  simp -dsimp +contextual only [↓evA, evB, evT, tys, encs, Nat.reduceAdd, Nat.reduceMul, Nat.reduceBEq, Nat.reduceLeDiff, Nat.reduceLT, Tryz.func61, Tryz.f61, a61, TP, TZ, orc_p, orc_l, orc_a, orc_m, e_spec_FreeSlots_l3]
  try simp only [spec_FreeSlots, evT, encs, c_js, r_map_some, e_need_t]
  all_goals rfl
theorem e_spec_NewHouse (n : Nat) (no : Int) {R1} {slots : List Slot} [H1 : EncL cSlot R1 slots] : CP T (n + 12) 14 [.i .i64 no, .imm 3 R1] = (spec_NewHouse no slots).map fun r => .tup [.agg (cHouseO r.1), .b r.2] := by
  obtain ⟨rfl⟩ := H1
  rw [CP_eq]
  simp -dsimp +contextual only [↓evA, evB, evT, tys, encs, Nat.reduceAdd, Nat.reduceMul, Nat.reduceBEq, Nat.reduceLeDiff, Nat.reduceLT, Tryz.func14, Tryz.f14, a14, TP, TZ, orc_p, orc_l, orc_a, orc_m, e_spec_l33Copy, e_spec_IsHouse, e_spec_FreeSlots]
  try simp only [spec_NewHouse, evT, encs, c_js, r_map_some, e_need_t]
  all_goals rfl
theorem e_slices_Clone_Slot (n : Nat) {R1} {s : List Slot} [H1 : EncL cSlot R1 s] : CP T (n + 1) 63 [.imm 3 R1] = (slices_Clone_Slot s).map fun r => .own 3 (r.map cSlot) := by
  obtain ⟨rfl⟩ := H1
  rw [CP_eq]
  simp -dsimp +contextual only [↓evA, evB, evT, tys, encs, Nat.reduceAdd, Nat.reduceMul, Nat.reduceBEq, Nat.reduceLeDiff, Nat.reduceLT, Tryz.func63, Tryz.f63, a63, TP, TZ, orc_p, orc_l, orc_a, orc_m]
  try simp only [slices_Clone_Slot, evT, encs, c_js, r_map_some, e_need_t]
  all_goals rfl
theorem e_impl_InRange (n : Nat) (vn : Int) (low : Int) (high : Int) : CP T (n + 1) 101 [.i .i64 vn, .i .i64 low, .i .i64 high] = (impl_InRange vn low high).map fun r => .b r := by
  rw [CP_eq]
  simp -dsimp +contextual only [↓evA, evB, evT, tys, encs, Nat.reduceAdd, Nat.reduceMul, Nat.reduceBEq, Nat.reduceLeDiff, Nat.reduceLT, Tryz.func101, Tryz.f101, a101, TP, TZ, orc_p, orc_l, orc_a, orc_m]
  try simp only [impl_InRange, evT, encs, c_js, r_map_some, e_need_t]
  all_goals rfl
theorem e_impl_IsThing (n : Nat) (xxId : Int) (xxKind : Int) (xxColour : Int) (xxSize : Int) (xxWorth : Int) : CP T (n + 2) 212 [.agg [.i .i64 xxId, .i .i64 xxKind, .i .i64 xxColour, .i .i64 xxSize, .i .i64 xxWorth]] = (impl_IsThing (⟨xxId, xxKind, xxColour, xxSize, xxWorth⟩ : Thing)).map fun r => .b r := by
  rw [CP_eq]
  simp -dsimp +contextual only [↓evA, evB, evT, tys, encs, Nat.reduceAdd, Nat.reduceMul, Nat.reduceBEq, Nat.reduceLeDiff, Nat.reduceLT, Tryz.func212, Tryz.f212, a212, TP, TZ, orc_p, orc_l, orc_a, orc_m, e_impl_InRange]
  try simp only [impl_IsThing, evT, encs, c_js, r_map_some, e_need_t]
  all_goals rfl
theorem e_impl_IsFind (n : Nat) (fxThingxId : Int) (fxThingxKind : Int) (fxThingxColour : Int) (fxThingxSize : Int) (fxThingxWorth : Int) (fxPlace : Int) (fxAt : Int) (fxFinder : Int) : CP T (n + 3) 233 [.agg [.i .i64 fxThingxId, .i .i64 fxThingxKind, .i .i64 fxThingxColour, .i .i64 fxThingxSize, .i .i64 fxThingxWorth, .i .i64 fxPlace, .i .i64 fxAt, .i .i64 fxFinder]] = (impl_IsFind (⟨⟨fxThingxId, fxThingxKind, fxThingxColour, fxThingxSize, fxThingxWorth⟩, fxPlace, fxAt, fxFinder⟩ : Find)).map fun r => .b r := by
  rw [CP_eq]
  simp -dsimp +contextual only [↓evA, evB, evT, tys, encs, Nat.reduceAdd, Nat.reduceMul, Nat.reduceBEq, Nat.reduceLeDiff, Nat.reduceLT, Tryz.func233, Tryz.f233, a233, TP, TZ, orc_p, orc_l, orc_a, orc_m, e_impl_IsThing, e_impl_InRange]
  try simp only [impl_IsFind, evT, encs, c_js, r_map_some, e_need_t]
  all_goals rfl
theorem e_impl_AreFinds_l4 (n : Nat) {R1} {l : List Find} {R2} {t8 : List Find} (t9 : Int) (t10 : Int) [H1 : EncL cFind R1 l] [H2 : EncL cFind R2 t8] : LP T (n + 4) 156 4 (frm [(0, .imm 8 R1), (8, .imm 8 R2), (9, .i .i64 t9), (10, .i .i64 t10)]) [] =
    lmap (run (impl_AreFinds_l4 l t8 t9) t10) (fun (zr : Bool) => (XE.ret, frm [(2, .b zr)], [])) (fun (zr : Unit) => (XE.exit 0, frm [], [])) := by
  obtain ⟨rfl⟩ := H1
  obtain ⟨rfl⟩ := H2
  rw [LP_eq]
  simp -dsimp only [↓evA, evB, lpG_eq, Tryz.func156, Tryz.f156, a156, TP, TZ, Nat.reduceAdd, Nat.reduceMul, Nat.reduceBEq, Nat.reduceLeDiff, Nat.reduceLT]
  refine run_map (fun (zs : Int) => (frm [(0, .imm 8 (l.map cFind)), (8, .imm 8 (t8.map cFind)), (9, .i .i64 t9), (10, .i .i64 zs)], [])) (evO (fun (zr : Bool) => (XE.ret, frm [(2, .b zr)], [])) (fun (zr : Unit) => (XE.exit 0, frm [], []))) ?_ t10
  intro t10
  simp -dsimp +contextual only [↓evA, evB, evT, tys, encs, Nat.reduceAdd, Nat.reduceMul, Nat.reduceBEq, Nat.reduceLeDiff, Nat.reduceLT, TP, TZ, orc_p, orc_l, orc_a, orc_m, e_impl_IsFind]
  try simp only [impl_AreFinds_l4, evT, encs, c_js, r_map_some, e_need_t]
  all_goals rfl
theorem e_impl_AreFinds (n : Nat) {R1} {l : List Find} [H1 : EncL cFind R1 l] : CP T (n + 5) 156 [.imm 8 R1] = (impl_AreFinds l).map fun r => .b r := by
  obtain ⟨rfl⟩ := H1
  rw [CP_eq]
  simp -dsimp +contextual only [↓evA, evB, evT, tys, encs, Nat.reduceAdd, Nat.reduceMul, Nat.reduceBEq, Nat.reduceLeDiff, Nat.reduceLT, Tryz.func156, Tryz.f156, a156, TP, TZ, orc_p, orc_l, orc_a, orc_m, e_impl_AreFinds_l4]
  try simp only [impl_AreFinds, evT, encs, c_js, r_map_some, e_need_t]
  all_goals rfl
theorem e_impl_AreMarks_l4 (n : Nat) {R1} {l : List Mark} {R2} {t8 : List Mark} (t9 : Int) (t10 : Int) [H1 : EncL cMark R1 l] [H2 : EncL cMark R2 t8] : LP T (n + 2) 197 4 (frm [(0, .imm 2 R1), (8, .imm 2 R2), (9, .i .i64 t9), (10, .i .i64 t10)]) [] =
    lmap (run (impl_AreMarks_l4 l t8 t9) t10) (fun (zr : Bool) => (XE.ret, frm [(2, .b zr)], [])) (fun (zr : Unit) => (XE.exit 0, frm [], [])) := by
  obtain ⟨rfl⟩ := H1
  obtain ⟨rfl⟩ := H2
  rw [LP_eq]
  simp -dsimp only [↓evA, evB, lpG_eq, Tryz.func197, Tryz.f197, a197, TP, TZ, Nat.reduceAdd, Nat.reduceMul, Nat.reduceBEq, Nat.reduceLeDiff, Nat.reduceLT]
  refine run_map (fun (zs : Int) => (frm [(0, .imm 2 (l.map cMark)), (8, .imm 2 (t8.map cMark)), (9, .i .i64 t9), (10, .i .i64 zs)], [])) (evO (fun (zr : Bool) => (XE.ret, frm [(2, .b zr)], [])) (fun (zr : Unit) => (XE.exit 0, frm [], []))) ?_ t10
  intro t10
  simp -dsimp +contextual only [↓evA, evB, evT, tys, encs, Nat.reduceAdd, Nat.reduceMul, Nat.reduceBEq, Nat.reduceLeDiff, Nat.reduceLT, TP, TZ, orc_p, orc_l, orc_a, orc_m, e_impl_InRange]
  try simp only [impl_AreMarks_l4, evT, encs, c_js, r_map_some, e_need_t]
  all_goals rfl
theorem e_impl_AreMarks (n : Nat) {R1} {l : List Mark} [H1 : EncL cMark R1 l] : CP T (n + 3) 197 [.imm 2 R1] = (impl_AreMarks l).map fun r => .b r := by
  obtain ⟨rfl⟩ := H1
  rw [CP_eq]
  simp -dsimp +contextual only [↓evA, evB, evT, tys, encs, Nat.reduceAdd, Nat.reduceMul, Nat.reduceBEq, Nat.reduceLeDiff, Nat.reduceLT, Tryz.func197, Tryz.f197, a197, TP, TZ, orc_p, orc_l, orc_a, orc_m, e_impl_AreMarks_l4]
  try simp only [impl_AreMarks, evT, encs, c_js, r_map_some, e_need_t]
  all_goals rfl
theorem e_impl_AreSecrets_l4 (n : Nat) {R1} {l : List Secret} {R2} {t8 : List Secret} (t9 : Int) (t10 : Int) [H1 : EncL cSecret R1 l] [H2 : EncL cSecret R2 t8] : LP T (n + 4) 157 4 (frm [(0, .imm 3 R1), (8, .imm 3 R2), (9, .i .i64 t9), (10, .i .i64 t10)]) [] =
    lmap (run (impl_AreSecrets_l4 l t8 t9) t10) (fun (zr : Bool) => (XE.ret, frm [(2, .b zr)], [])) (fun (zr : Unit) => (XE.exit 0, frm [], [])) := by
  obtain ⟨rfl⟩ := H1
  obtain ⟨rfl⟩ := H2
  rw [LP_eq]
  simp -dsimp only [↓evA, evB, lpG_eq, Tryz.func157, Tryz.f157, a157, TP, TZ, Nat.reduceAdd, Nat.reduceMul, Nat.reduceBEq, Nat.reduceLeDiff, Nat.reduceLT]
  refine run_map (fun (zs : Int) => (frm [(0, .imm 3 (l.map cSecret)), (8, .imm 3 (t8.map cSecret)), (9, .i .i64 t9), (10, .i .i64 zs)], [])) (evO (fun (zr : Bool) => (XE.ret, frm [(2, .b zr)], [])) (fun (zr : Unit) => (XE.exit 0, frm [], []))) ?_ t10
  intro t10
  simp -dsimp +contextual only [↓evA, evB, evT, tys, encs, Nat.reduceAdd, Nat.reduceMul, Nat.reduceBEq, Nat.reduceLeDiff, Nat.reduceLT, TP, TZ, orc_p, orc_l, orc_a, orc_m, e_impl_InRange, e_impl_AreMarks]
  try simp only [impl_AreSecrets_l4, evT, encs, c_js, r_map_some, e_need_t]
  all_goals rfl
theorem e_impl_AreSecrets (n : Nat) {R1} {l : List Secret} [H1 : EncL cSecret R1 l] : CP T (n + 5) 157 [.imm 3 R1] = (impl_AreSecrets l).map fun r => .b r := by
  obtain ⟨rfl⟩ := H1
  rw [CP_eq]
  simp -dsimp +contextual only [↓evA, evB, evT, tys, encs, Nat.reduceAdd, Nat.reduceMul, Nat.reduceBEq, Nat.reduceLeDiff, Nat.reduceLT, Tryz.func157, Tryz.f157, a157, TP, TZ, orc_p, orc_l, orc_a, orc_m, e_impl_AreSecrets_l4]
  try simp only [impl_AreSecrets, evT, encs, c_js, r_map_some, e_need_t]
  all_goals rfl
theorem e_impl_slotWith_1 (n : Nat) (xxId : Int) (xxSize : Int) (xxThing : Int) (c : Int) : CP T (n + 1) 203 [.agg [.i .i64 xxId, .i .i64 xxSize, .i .i64 xxThing], .iptr 1 [[.i .i64 c]] 0 0] = (impl_slotWith_1 (⟨xxId, xxSize, xxThing⟩ : Slot) c).map fun r => .b r := by
  rw [CP_eq]
  simp -dsimp +contextual only [↓evA, evB, evT, tys, encs, Nat.reduceAdd, Nat.reduceMul, Nat.reduceBEq, Nat.reduceLeDiff, Nat.reduceLT, Tryz.func203, Tryz.f203, a203, TP, TZ, orc_p, orc_l, orc_a, orc_m]
  try simp only [impl_slotWith_1, evT, encs, c_js, r_map_some, e_need_t]
  all_goals rfl
theorem e_slices_IndexFunc_Slot_cimpl_slotWith_1_l2 (n : Nat) {R1} {s : List Slot} (f : Int) (t7 : Int) (t8 : Int) [H1 : EncL cSlot R1 s] : LP T (n + 2) 202 2 (frm [(0, .imm 3 R1), (1, .clo 203 [.iptr 1 [[.i .i64 f]] 0 0]), (7, .i .i64 t7), (8, .i .i64 t8)]) [] =
    lmap (run (slices_IndexFunc_Slot_cimpl_slotWith_1_l2 s f t7) t8) (fun (zr : Int) => (XE.ret, frm [(4, .i .i64 zr)], [])) (fun (zr : Unit) => (XE.exit 0, frm [], [])) := by
  obtain ⟨rfl⟩ := H1
  rw [LP_eq]
  simp -dsimp only [↓evA, evB, lpG_eq, Tryz.func202, Tryz.f202, a202, TP, TZ, Nat.reduceAdd, Nat.reduceMul, Nat.reduceBEq, Nat.reduceLeDiff, Nat.reduceLT]
  refine run_map (fun (zs : Int) => (frm [(0, .imm 3 (s.map cSlot)), (1, .clo 203 [.iptr 1 [[.i .i64 f]] 0 0]), (7, .i .i64 t7), (8, .i .i64 zs)], [])) (evO (fun (zr : Int) => (XE.ret, frm [(4, .i .i64 zr)], [])) (fun (zr : Unit) => (XE.exit 0, frm [], []))) ?_ t8
  intro t8
  simp -dsimp +contextual only [↓evA, evB, evT, tys, encs, Nat.reduceAdd, Nat.reduceMul, Nat.reduceBEq, Nat.reduceLeDiff, Nat.reduceLT, TP, TZ, orc_p, orc_l, orc_a, orc_m, e_impl_slotWith_1]
  try simp only [slices_IndexFunc_Slot_cimpl_slotWith_1_l2, evT, encs, c_js, r_map_some, e_need_t]
  all_goals rfl
theorem e_slices_IndexFunc_Slot_cimpl_slotWith_1 (n : Nat) {R1} {s : List Slot} (c : Int) [H1 : EncL cSlot R1 s] : CP T (n + 3) 202 [.imm 3 R1, .clo 203 [.iptr 1 [[.i .i64 c]] 0 0]] = (slices_IndexFunc_Slot_cimpl_slotWith_1 s c).map fun r => .i .i64 r := by
  obtain ⟨rfl⟩ := H1
  rw [CP_eq]
  simp -dsimp +contextual only [↓evA, evB, evT, tys, encs, Nat.reduceAdd, Nat.reduceMul, Nat.reduceBEq, Nat.reduceLeDiff, Nat.reduceLT, Tryz.func202, Tryz.f202, a202, TP, TZ, orc_p, orc_l, orc_a, orc_m, e_slices_IndexFunc_Slot_cimpl_slotWith_1_l2]
  try simp only [slices_IndexFunc_Slot_cimpl_slotWith_1, evT, encs, c_js, r_map_some, e_need_t]
  all_goals rfl
theorem e_impl_slotWith (n : Nat) {R1} {l : List Slot} (thing : Int) [H1 : EncL cSlot R1 l] : CP T (n + 4) 114 [.imm 3 R1, .i .i64 thing] = (impl_slotWith l thing).map fun r => .i .i64 r := by
  obtain ⟨rfl⟩ := H1
  rw [CP_eq]
  simp -dsimp +contextual only [↓evA, evB, evT, tys, encs, Nat.reduceAdd, Nat.reduceMul, Nat.reduceBEq, Nat.reduceLeDiff, Nat.reduceLT, Tryz.func114, Tryz.f114, a114, TP, TZ, orc_p, orc_l, orc_a, orc_m, e_slices_IndexFunc_Slot_cimpl_slotWith_1]
  try simp only [impl_slotWith, evT, encs, c_js, r_map_some, e_need_t]
  all_goals rfl
theorem e_impl_SlotOf (n : Nat) {R1} {l : List Slot} (thing : Int) [H1 : EncL cSlot R1 l] : CP T (n + 5) 234 [.imm 3 R1, .i .i64 thing] = (impl_SlotOf l thing).map fun r => .i .i64 r := by
  obtain ⟨rfl⟩ := H1
  rw [CP_eq]
  simp -dsimp +contextual only [↓evA, evB, evT, tys, encs, Nat.reduceAdd, Nat.reduceMul, Nat.reduceBEq, Nat.reduceLeDiff, Nat.reduceLT, Tryz.func234, Tryz.f234, a234, TP, TZ, orc_p, orc_l, orc_a, orc_m, e_impl_slotWith]
  try simp only [impl_SlotOf, evT, encs, c_js, r_map_some, e_need_t]
  all_goals rfl
theorem e_impl_AreSlots_l4 (n : Nat) {R1} {l : List Slot} {R2} {t8 : List Slot} (t9 : Int) (t10 : Int) [H1 : EncL cSlot R1 l] [H2 : EncL cSlot R2 t8] : LP T (n + 6) 158 4 (frm [(0, .imm 3 R1), (8, .imm 3 R2), (9, .i .i64 t9), (10, .i .i64 t10)]) [] =
    lmap (run (impl_AreSlots_l4 l t8 t9) t10) (fun (zr : Bool) => (XE.ret, frm [(2, .b zr)], [])) (fun (zr : Unit) => (XE.exit 0, frm [], [])) := by
  obtain ⟨rfl⟩ := H1
  obtain ⟨rfl⟩ := H2
  rw [LP_eq]
  simp -dsimp only [↓evA, evB, lpG_eq, Tryz.func158, Tryz.f158, a158, TP, TZ, Nat.reduceAdd, Nat.reduceMul, Nat.reduceBEq, Nat.reduceLeDiff, Nat.reduceLT]
  refine run_map (fun (zs : Int) => (frm [(0, .imm 3 (l.map cSlot)), (8, .imm 3 (t8.map cSlot)), (9, .i .i64 t9), (10, .i .i64 zs)], [])) (evO (fun (zr : Bool) => (XE.ret, frm [(2, .b zr)], [])) (fun (zr : Unit) => (XE.exit 0, frm [], []))) ?_ t10
  intro t10
  simp -dsimp +contextual only [↓evA, evB, evT, tys, encs, Nat.reduceAdd, Nat.reduceMul, Nat.reduceBEq, Nat.reduceLeDiff, Nat.reduceLT, TP, TZ, orc_p, orc_l, orc_a, orc_m, e_impl_InRange, e_impl_SlotOf]
  try simp only [impl_AreSlots_l4, evT, encs, c_js, r_map_some, e_need_t]
  all_goals rfl
theorem e_impl_AreSlots (n : Nat) {R1} {l : List Slot} [H1 : EncL cSlot R1 l] : CP T (n + 7) 158 [.imm 3 R1] = (impl_AreSlots l).map fun r => .b r := by
  obtain ⟨rfl⟩ := H1
  rw [CP_eq]
  simp -dsimp +contextual only [↓evA, evB, evT, tys, encs, Nat.reduceAdd, Nat.reduceMul, Nat.reduceBEq, Nat.reduceLeDiff, Nat.reduceLT, Tryz.func158, Tryz.f158, a158, TP, TZ, orc_p, orc_l, orc_a, orc_m, e_impl_AreSlots_l4]
  try simp only [impl_AreSlots, evT, encs, c_js, r_map_some, e_need_t]
  all_goals rfl
theorem e_impl_AreClaims_l9 (n : Nat) {R1} {l : List Claim} (t4xId : Int) (t4xWho : Int) (t4xThing : Int) (t4xAt : Int) (t4xState : Int) {R2} {t10 : List Claim} (t11 : Int) (t12 : Int) {R3} {t62 : List Claim} (t63 : Int) (t64 : Int) [H1 : EncL cClaim R1 l] [H2 : EncL cClaim R2 t10] [H3 : EncL cClaim R3 t62] : LP T (n + 1) 159 9 (frm [(0, .imm 5 R1), (4, .ptr 0 0 0), (10, .imm 5 R2), (11, .i .i64 t11), (12, .i .i64 t12), (62, .imm 5 R3), (63, .i .i64 t63), (64, .i .i64 t64)]) [some (Ent.box [.i .i64 t4xId, .i .i64 t4xWho, .i .i64 t4xThing, .i .i64 t4xAt, .i .i64 t4xState])] =
    lmap (run (impl_AreClaims_l9 l (⟨t4xId, t4xWho, t4xThing, t4xAt, t4xState⟩ : Claim) t10 t11 t12 t62 t63) t64) (fun (zr : Bool) => (XE.ret, frm [(2, .b zr)], [])) (fun (zr : Unit) => (XE.exit 2, frm [(0, .imm 5 (l.map cClaim)), (10, .imm 5 (t10.map cClaim)), (11, .i .i64 t11), (12, .i .i64 t12)], [])) := by
  obtain ⟨rfl⟩ := H1
  obtain ⟨rfl⟩ := H2
  obtain ⟨rfl⟩ := H3
  rw [LP_eq]
  simp -dsimp only [↓evA, evB, lpG_eq, Tryz.func159, Tryz.f159, a159, TP, TZ, Nat.reduceAdd, Nat.reduceMul, Nat.reduceBEq, Nat.reduceLeDiff, Nat.reduceLT]
  refine run_map (fun (zs : Int) => (frm [(0, .imm 5 (l.map cClaim)), (4, .ptr 0 0 0), (10, .imm 5 (t10.map cClaim)), (11, .i .i64 t11), (12, .i .i64 t12), (62, .imm 5 (t62.map cClaim)), (63, .i .i64 t63), (64, .i .i64 zs)], [some (Ent.box [.i .i64 (⟨t4xId, t4xWho, t4xThing, t4xAt, t4xState⟩ : Claim).Id, .i .i64 (⟨t4xId, t4xWho, t4xThing, t4xAt, t4xState⟩ : Claim).Who, .i .i64 (⟨t4xId, t4xWho, t4xThing, t4xAt, t4xState⟩ : Claim).Thing, .i .i64 (⟨t4xId, t4xWho, t4xThing, t4xAt, t4xState⟩ : Claim).At, .i .i64 (⟨t4xId, t4xWho, t4xThing, t4xAt, t4xState⟩ : Claim).State])])) (evO (fun (zr : Bool) => (XE.ret, frm [(2, .b zr)], [])) (fun (zr : Unit) => (XE.exit 2, frm [(0, .imm 5 (l.map cClaim)), (10, .imm 5 (t10.map cClaim)), (11, .i .i64 t11), (12, .i .i64 t12)], []))) ?_ t64
  intro t64
  simp -dsimp +contextual only [↓evA, evB, evT, tys, encs, Nat.reduceAdd, Nat.reduceMul, Nat.reduceBEq, Nat.reduceLeDiff, Nat.reduceLT, TP, TZ, orc_p, orc_l, orc_a, orc_m]
  try simp only [impl_AreClaims_l9, evT, encs, c_js, r_map_some, e_need_t]
  all_goals rfl
theorem e_impl_AreClaims_l4 (n : Nat) {R1} {l : List Claim} {R2} {t10 : List Claim} (t11 : Int) (t12 : Int) [H1 : EncL cClaim R1 l] [H2 : EncL cClaim R2 t10] : LP T (n + 2) 159 4 (frm [(0, .imm 5 R1), (10, .imm 5 R2), (11, .i .i64 t11), (12, .i .i64 t12)]) [] =
    lmap (run (impl_AreClaims_l4 l t10 t11) t12) (fun (zr : Bool) => (XE.ret, frm [(2, .b zr)], [])) (fun (zr : Unit) => (XE.exit 0, frm [], [])) := by
  obtain ⟨rfl⟩ := H1
  obtain ⟨rfl⟩ := H2
  rw [LP_eq]
  simp -dsimp only [↓evA, evB, lpG_eq, Tryz.func159, Tryz.f159, a159, TP, TZ, Nat.reduceAdd, Nat.reduceMul, Nat.reduceBEq, Nat.reduceLeDiff, Nat.reduceLT]
  refine run_map (fun (zs : Int) => (frm [(0, .imm 5 (l.map cClaim)), (10, .imm 5 (t10.map cClaim)), (11, .i .i64 t11), (12, .i .i64 zs)], [])) (evO (fun (zr : Bool) => (XE.ret, frm [(2, .b zr)], [])) (fun (zr : Unit) => (XE.exit 0, frm [], []))) ?_ t12
  intro t12
  simp -dsimp +contextual only [↓evA, evB, evT, tys, encs, Nat.reduceAdd, Nat.reduceMul, Nat.reduceBEq, Nat.reduceLeDiff, Nat.reduceLT, TP, TZ, orc_p, orc_l, orc_a, orc_m, e_impl_InRange, e_impl_AreClaims_l9]
  try simp only [impl_AreClaims_l4, evT, encs, c_js, r_map_some, e_need_t]
  all_goals rfl
theorem e_impl_AreClaims (n : Nat) {R1} {l : List Claim} [H1 : EncL cClaim R1 l] : CP T (n + 3) 159 [.imm 5 R1] = (impl_AreClaims l).map fun r => .b r := by
  obtain ⟨rfl⟩ := H1
  rw [CP_eq]
  simp -dsimp +contextual only [↓evA, evB, evT, tys, encs, Nat.reduceAdd, Nat.reduceMul, Nat.reduceBEq, Nat.reduceLeDiff, Nat.reduceLT, Tryz.func159, Tryz.f159, a159, TP, TZ, orc_p, orc_l, orc_a, orc_m, e_impl_AreClaims_l4]
  try simp only [impl_AreClaims, evT, encs, c_js, r_map_some, e_need_t]
  all_goals rfl
theorem e_impl_Mod (n : Nat) (p : Int) (q : Int) : CP T (n + 2) 283 [.i .i64 p, .i .i64 q] = (impl_Mod p q).map fun r => .i .i64 r := by
  rw [CP_eq]
  simp -dsimp +contextual only [↓evA, evB, evT, tys, encs, Nat.reduceAdd, Nat.reduceMul, Nat.reduceBEq, Nat.reduceLeDiff, Nat.reduceLT, Tryz.func283, Tryz.f283, a283, TP, TZ, orc_p, orc_l, orc_a, orc_m, e_impl_InRange]
  try simp only [impl_Mod, evT, encs, c_js, r_map_some, e_need_t]
  all_goals rfl
theorem e_impl_fold (n : Nat) (acc : Int) (v : Int) : CP T (n + 3) 274 [.i .i64 acc, .i .i64 v] = (impl_fold acc v).map fun r => .i .i64 r := by
  rw [CP_eq]
  simp -dsimp +contextual only [↓evA, evB, evT, tys, encs, Nat.reduceAdd, Nat.reduceMul, Nat.reduceBEq, Nat.reduceLeDiff, Nat.reduceLT, Tryz.func274, Tryz.f274, a274, TP, TZ, orc_p, orc_l, orc_a, orc_m, e_impl_Mod]
  try simp only [impl_fold, evT, encs, c_js, r_map_some, e_need_t]
  all_goals rfl
theorem e_impl_Hash_l3 (n : Nat) (acc : Int) {R1} {t6 : List Int} (t7 : Int) (t8 : Int) [H1 : EncL c_i64 R1 t6] : LP T (n + 4) 256 3 (frm [(3, .i .i64 acc), (6, .imm 1 R1), (7, .i .i64 t7), (8, .i .i64 t8)]) [] =
    (run (impl_Hash_l3 t6 t7) (acc, t8)).map (fun (zr : Int) => (XE.exit 0, frm [(3, .i .i64 zr)], [])) := by
  obtain ⟨rfl⟩ := H1
  rw [LP_eq]
  simp -dsimp only [↓evA, evB, lpG_eq, Tryz.func256, Tryz.f256, a256, TP, TZ, Nat.reduceAdd, Nat.reduceMul, Nat.reduceBEq, Nat.reduceLeDiff, Nat.reduceLT]
  refine run_map (fun (zs : Int × Int) => (frm [(3, .i .i64 zs.1), (6, .imm 1 (t6.map c_i64)), (7, .i .i64 t7), (8, .i .i64 zs.2)], [])) (fun (zr : Int) => (XE.exit 0, frm [(3, .i .i64 zr)], [])) ?_ (acc, t8)
  rintro ⟨acc, t8⟩
  simp -dsimp +contextual only [↓evA, evB, evT, tys, encs, Nat.reduceAdd, Nat.reduceMul, Nat.reduceBEq, Nat.reduceLeDiff, Nat.reduceLT, TP, TZ, orc_p, orc_l, orc_a, orc_m, e_impl_fold]
  try simp only [impl_Hash_l3, evT, encs, c_js, r_map_some, e_need_t]
  all_goals rfl
theorem e_impl_Hash (n : Nat) {R1} {values : List Int} [H1 : EncL c_i64 R1 values] : CP T (n + 5) 256 [.imm 1 R1] = (impl_Hash values).map fun r => .i .i64 r := by
  obtain ⟨rfl⟩ := H1
  rw [CP_eq]
  simp -dsimp +contextual only [↓evA, evB, evT, tys, encs, Nat.reduceAdd, Nat.reduceMul, Nat.reduceBEq, Nat.reduceLeDiff, Nat.reduceLT, Tryz.func256, Tryz.f256, a256, TP, TZ, orc_p, orc_l, orc_a, orc_m, e_impl_Hash_l3]
  try simp only [impl_Hash, evT, encs, c_js, r_map_some, e_need_t]
  all_goals rfl
theorem e_impl_HandSeal (n : Nat) (before : Int) (xxThing : Int) (xxHolder : Int) (xxWho : Int) (xxAt : Int) (xxSeal : Int) : CP T (n + 6) 221 [.i .i64 before, .agg [.i .i64 xxThing, .i .i64 xxHolder, .i .i64 xxWho, .i .i64 xxAt, .i .i64 xxSeal]] = (impl_HandSeal before (⟨xxThing, xxHolder, xxWho, xxAt, xxSeal⟩ : Hand)).map fun r => .i .i64 r := by
  rw [CP_eq]
  simp -dsimp +contextual only [↓evA, evB, evT, tys, encs, Nat.reduceAdd, Nat.reduceMul, Nat.reduceBEq, Nat.reduceLeDiff, Nat.reduceLT, Tryz.func221, Tryz.f221, a221, TP, TZ, orc_p, orc_l, orc_a, orc_m, e_impl_Hash]
  try simp only [impl_HandSeal, evT, encs, c_js, r_map_some, e_need_t]
  all_goals rfl
theorem e_impl_lastHand_l2 (n : Nat) {R1} {l : List Hand} (thing : Int) (i : Int) [H1 : EncL cHand R1 l] : LP T (n + 1) 235 2 (frm [(0, .imm 5 R1), (1, .i .i64 thing), (5, .i .i64 i)]) [] =
    lmap (run (impl_lastHand_l2 l thing) i) (fun (zr : Int) => (XE.ret, frm [(4, .i .i64 zr)], [])) (fun (zr : Unit) => (XE.exit 0, frm [], [])) := by
  obtain ⟨rfl⟩ := H1
  rw [LP_eq]
  simp -dsimp only [↓evA, evB, lpG_eq, Tryz.func235, Tryz.f235, a235, TP, TZ, Nat.reduceAdd, Nat.reduceMul, Nat.reduceBEq, Nat.reduceLeDiff, Nat.reduceLT]
  refine run_map (fun (zs : Int) => (frm [(0, .imm 5 (l.map cHand)), (1, .i .i64 thing), (5, .i .i64 zs)], [])) (evO (fun (zr : Int) => (XE.ret, frm [(4, .i .i64 zr)], [])) (fun (zr : Unit) => (XE.exit 0, frm [], []))) ?_ i
  intro i
  simp -dsimp +contextual only [↓evA, evB, evT, tys, encs, Nat.reduceAdd, Nat.reduceMul, Nat.reduceBEq, Nat.reduceLeDiff, Nat.reduceLT, TP, TZ, orc_p, orc_l, orc_a, orc_m]
  try simp only [impl_lastHand_l2, evT, encs, c_js, r_map_some, e_need_t]
  all_goals rfl
theorem e_impl_lastHand (n : Nat) {R1} {l : List Hand} (thing : Int) [H1 : EncL cHand R1 l] : CP T (n + 2) 235 [.imm 5 R1, .i .i64 thing] = (impl_lastHand l thing).map fun r => .i .i64 r := by
  obtain ⟨rfl⟩ := H1
  rw [CP_eq]
  simp -dsimp +contextual only [↓evA, evB, evT, tys, encs, Nat.reduceAdd, Nat.reduceMul, Nat.reduceBEq, Nat.reduceLeDiff, Nat.reduceLT, Tryz.func235, Tryz.f235, a235, TP, TZ, orc_p, orc_l, orc_a, orc_m, e_impl_lastHand_l2]
  try simp only [impl_lastHand, evT, encs, c_js, r_map_some, e_need_t]
  all_goals rfl
theorem e_impl_IsChain_l5 (n : Nat) {R1} {l : List Hand} (t3 : Int) {R2} {t10 : List Hand} (t11 : Int) (t12 : Int) [H1 : EncL cHand R1 l] [H2 : EncL cHand R2 t10] : LP T (n + 7) 160 5 (frm [(0, .imm 5 R1), (3, .i .i64 t3), (10, .imm 5 R2), (11, .i .i64 t11), (12, .i .i64 t12)]) [] =
    lmap (run (impl_IsChain_l5 l t10 t11) (t3, t12)) (fun (zr : Bool) => (XE.ret, frm [(2, .b zr)], [])) (fun (zr : Unit) => (XE.exit 0, frm [], [])) := by
  obtain ⟨rfl⟩ := H1
  obtain ⟨rfl⟩ := H2
  rw [LP_eq]
  simp -dsimp only [↓evA, evB, lpG_eq, Tryz.func160, Tryz.f160, a160, TP, TZ, Nat.reduceAdd, Nat.reduceMul, Nat.reduceBEq, Nat.reduceLeDiff, Nat.reduceLT]
  refine run_map (fun (zs : Int × Int) => (frm [(0, .imm 5 (l.map cHand)), (3, .i .i64 zs.1), (10, .imm 5 (t10.map cHand)), (11, .i .i64 t11), (12, .i .i64 zs.2)], [])) (evO (fun (zr : Bool) => (XE.ret, frm [(2, .b zr)], [])) (fun (zr : Unit) => (XE.exit 0, frm [], []))) ?_ (t3, t12)
  rintro ⟨t3, t12⟩
  simp -dsimp +contextual only [↓evA, evB, evT, tys, encs, Nat.reduceAdd, Nat.reduceMul, Nat.reduceBEq, Nat.reduceLeDiff, Nat.reduceLT, TP, TZ, orc_p, orc_l, orc_a, orc_m, e_impl_InRange, e_impl_HandSeal, e_impl_lastHand]
  try simp only [impl_IsChain_l5, evT, encs, c_js, r_map_some, e_need_t]
  all_goals rfl
theorem e_impl_IsChain (n : Nat) {R1} {l : List Hand} [H1 : EncL cHand R1 l] : CP T (n + 8) 160 [.imm 5 R1] = (impl_IsChain l).map fun r => .b r := by
  obtain ⟨rfl⟩ := H1
  rw [CP_eq]
  simp -dsimp +contextual only [↓evA, evB, evT, tys, encs, Nat.reduceAdd, Nat.reduceMul, Nat.reduceBEq, Nat.reduceLeDiff, Nat.reduceLT, Tryz.func160, Tryz.f160, a160, TP, TZ, orc_p, orc_l, orc_a, orc_m, e_impl_IsChain_l5]
  try simp only [impl_IsChain, evT, encs, c_js, r_map_some, e_need_t]
  all_goals rfl
theorem e_impl_AreEntries_l4 (n : Nat) {R1} {l : List Entry} {R2} {t8 : List Entry} (t9 : Int) (t10 : Int) [H1 : EncL cEntry R1 l] [H2 : EncL cEntry R2 t8] : LP T (n + 2) 161 4 (frm [(0, .imm 4 R1), (8, .imm 4 R2), (9, .i .i64 t9), (10, .i .i64 t10)]) [] =
    lmap (run (impl_AreEntries_l4 l t8 t9) t10) (fun (zr : Bool) => (XE.ret, frm [(2, .b zr)], [])) (fun (zr : Unit) => (XE.exit 0, frm [], [])) := by
  obtain ⟨rfl⟩ := H1
  obtain ⟨rfl⟩ := H2
  rw [LP_eq]
  simp -dsimp only [↓evA, evB, lpG_eq, Tryz.func161, Tryz.f161, a161, TP, TZ, Nat.reduceAdd, Nat.reduceMul, Nat.reduceBEq, Nat.reduceLeDiff, Nat.reduceLT]
  refine run_map (fun (zs : Int) => (frm [(0, .imm 4 (l.map cEntry)), (8, .imm 4 (t8.map cEntry)), (9, .i .i64 t9), (10, .i .i64 zs)], [])) (evO (fun (zr : Bool) => (XE.ret, frm [(2, .b zr)], [])) (fun (zr : Unit) => (XE.exit 0, frm [], []))) ?_ t10
  intro t10
  simp -dsimp +contextual only [↓evA, evB, evT, tys, encs, Nat.reduceAdd, Nat.reduceMul, Nat.reduceBEq, Nat.reduceLeDiff, Nat.reduceLT, TP, TZ, orc_p, orc_l, orc_a, orc_m, e_impl_InRange]
  try simp only [impl_AreEntries_l4, evT, encs, c_js, r_map_some, e_need_t]
  all_goals rfl
theorem e_impl_AreEntries (n : Nat) {R1} {l : List Entry} [H1 : EncL cEntry R1 l] : CP T (n + 3) 161 [.imm 4 R1] = (impl_AreEntries l).map fun r => .b r := by
  obtain ⟨rfl⟩ := H1
  rw [CP_eq]
  simp -dsimp +contextual only [↓evA, evB, evT, tys, encs, Nat.reduceAdd, Nat.reduceMul, Nat.reduceBEq, Nat.reduceLeDiff, Nat.reduceLT, Tryz.func161, Tryz.f161, a161, TP, TZ, orc_p, orc_l, orc_a, orc_m, e_impl_AreEntries_l4]
  try simp only [impl_AreEntries, evT, encs, c_js, r_map_some, e_need_t]
  all_goals rfl
theorem e_impl_InHouse_l5 (n : Nat) {R1} {l : List Hand} (house : Int) {R2} {out : List Int} {R3} {t13 : List Hand} (t14 : Int) (t15 : Int) [H1 : EncL cHand R1 l] [H2 : EncL c_i64 R2 out] [H3 : EncL cHand R3 t13] : LP T (n + 3) 236 5 (frm [(0, .imm 5 R1), (1, .i .i64 house), (5, .sl 0), (13, .imm 5 R3), (14, .i .i64 t14), (15, .i .i64 t15)]) [some (Ent.lst 1 R2)] =
    (run (impl_InHouse_l5 l house t13 t14) (out, t15)).map (fun (zr : (List Int)) => (XE.exit 0, frm [(5, .sl 0)], [some (Ent.lst 1 (zr.map c_i64))])) := by
  obtain ⟨rfl⟩ := H1
  obtain ⟨rfl⟩ := H2
  obtain ⟨rfl⟩ := H3
  rw [LP_eq]
  simp -dsimp only [↓evA, evB, lpG_eq, Tryz.func236, Tryz.f236, a236, TP, TZ, Nat.reduceAdd, Nat.reduceMul, Nat.reduceBEq, Nat.reduceLeDiff, Nat.reduceLT]
  refine run_map (fun (zs : (List Int) × Int) => (frm [(0, .imm 5 (l.map cHand)), (1, .i .i64 house), (5, .sl 0), (13, .imm 5 (t13.map cHand)), (14, .i .i64 t14), (15, .i .i64 zs.2)], [some (Ent.lst 1 (zs.1.map c_i64))])) (fun (zr : (List Int)) => (XE.exit 0, frm [(5, .sl 0)], [some (Ent.lst 1 (zr.map c_i64))])) ?_ (out, t15)
  rintro ⟨out, t15⟩
  simp -dsimp +contextual only [↓evA, evB, evT, tys, encs, Nat.reduceAdd, Nat.reduceMul, Nat.reduceBEq, Nat.reduceLeDiff, Nat.reduceLT, TP, TZ, orc_p, orc_l, orc_a, orc_m, srt, e_impl_lastHand]
  try simp only [impl_InHouse_l5, evT, encs, c_js, r_map_some, e_need_t]
  all_goals rfl
theorem e_impl_InHouse (n : Nat) {R1} {l : List Hand} (house : Int) [H1 : EncL cHand R1 l] : CP T (n + 9) 236 [.imm 5 R1, .i .i64 house] = (impl_InHouse l house).map fun r => .own 1 (r.map c_i64) := by
  obtain ⟨rfl⟩ := H1
  rw [CP_eq]
  simp -dsimp +contextual only [↓evA, evB, evT, tys, encs, Nat.reduceAdd, Nat.reduceMul, Nat.reduceBEq, Nat.reduceLeDiff, Nat.reduceLT, Tryz.func236, Tryz.f236, a236, TP, TZ, orc_p, orc_l, orc_a, orc_m, srt, e_impl_IsChain, e_impl_InHouse_l5]
  try simp only [impl_InHouse, evT, encs, c_js, r_map_some, e_need_t]
  all_goals rfl
theorem e_slices_Index_int_l2 (n : Nat) {R1} {s : List Int} (v : Int) (t7 : Int) (t8 : Int) [H1 : EncL c_i64 R1 s] : LP T (n + 1) 266 2 (frm [(0, .imm 1 R1), (1, .i .i64 v), (7, .i .i64 t7), (8, .i .i64 t8)]) [] =
    lmap (run (slices_Index_int_l2 s v t7) t8) (fun (zr : Int) => (XE.ret, frm [(4, .i .i64 zr)], [])) (fun (zr : Unit) => (XE.exit 0, frm [], [])) := by
  obtain ⟨rfl⟩ := H1
  rw [LP_eq]
  simp -dsimp only [↓evA, evB, lpG_eq, Tryz.func266, Tryz.f266, a266, TP, TZ, Nat.reduceAdd, Nat.reduceMul, Nat.reduceBEq, Nat.reduceLeDiff, Nat.reduceLT]
  refine run_map (fun (zs : Int) => (frm [(0, .imm 1 (s.map c_i64)), (1, .i .i64 v), (7, .i .i64 t7), (8, .i .i64 zs)], [])) (evO (fun (zr : Int) => (XE.ret, frm [(4, .i .i64 zr)], [])) (fun (zr : Unit) => (XE.exit 0, frm [], []))) ?_ t8
  intro t8
  simp -dsimp +contextual only [↓evA, evB, evT, tys, encs, Nat.reduceAdd, Nat.reduceMul, Nat.reduceBEq, Nat.reduceLeDiff, Nat.reduceLT, TP, TZ, orc_p, orc_l, orc_a, orc_m]
  try simp only [slices_Index_int_l2, evT, encs, c_js, r_map_some, e_need_t]
  all_goals rfl
theorem e_slices_Index_int (n : Nat) {R1} {s : List Int} (v : Int) [H1 : EncL c_i64 R1 s] : CP T (n + 2) 266 [.imm 1 R1, .i .i64 v] = (slices_Index_int s v).map fun r => .i .i64 r := by
  obtain ⟨rfl⟩ := H1
  rw [CP_eq]
  simp -dsimp +contextual only [↓evA, evB, evT, tys, encs, Nat.reduceAdd, Nat.reduceMul, Nat.reduceBEq, Nat.reduceLeDiff, Nat.reduceLT, Tryz.func266, Tryz.f266, a266, TP, TZ, orc_p, orc_l, orc_a, orc_m, e_slices_Index_int_l2]
  try simp only [slices_Index_int, evT, encs, c_js, r_map_some, e_need_t]
  all_goals rfl
theorem e_slices_Contains_int (n : Nat) {R1} {s : List Int} (v : Int) [H1 : EncL c_i64 R1 s] : CP T (n + 3) 237 [.imm 1 R1, .i .i64 v] = (slices_Contains_int s v).map fun r => .b r := by
  obtain ⟨rfl⟩ := H1
  rw [CP_eq]
  simp -dsimp +contextual only [↓evA, evB, evT, tys, encs, Nat.reduceAdd, Nat.reduceMul, Nat.reduceBEq, Nat.reduceLeDiff, Nat.reduceLT, Tryz.func237, Tryz.f237, a237, TP, TZ, orc_p, orc_l, orc_a, orc_m, e_slices_Index_int]
  try simp only [slices_Contains_int, evT, encs, c_js, r_map_some, e_need_t]
  all_goals rfl
theorem e_impl_FindThing_1 (n : Nat) (fxThingxId : Int) (fxThingxKind : Int) (fxThingxColour : Int) (fxThingxSize : Int) (fxThingxWorth : Int) (fxPlace : Int) (fxAt : Int) (fxFinder : Int) (c : Int) : CP T (n + 1) 248 [.agg [.i .i64 fxThingxId, .i .i64 fxThingxKind, .i .i64 fxThingxColour, .i .i64 fxThingxSize, .i .i64 fxThingxWorth, .i .i64 fxPlace, .i .i64 fxAt, .i .i64 fxFinder], .iptr 1 [[.i .i64 c]] 0 0] = (impl_FindThing_1 (⟨⟨fxThingxId, fxThingxKind, fxThingxColour, fxThingxSize, fxThingxWorth⟩, fxPlace, fxAt, fxFinder⟩ : Find) c).map fun r => .b r := by
  rw [CP_eq]
  simp -dsimp +contextual only [↓evA, evB, evT, tys, encs, Nat.reduceAdd, Nat.reduceMul, Nat.reduceBEq, Nat.reduceLeDiff, Nat.reduceLT, Tryz.func248, Tryz.f248, a248, TP, TZ, orc_p, orc_l, orc_a, orc_m]
  try simp only [impl_FindThing_1, evT, encs, c_js, r_map_some, e_need_t]
  all_goals rfl
theorem e_slices_IndexFunc_Find_cimpl_FindThing_1_l2 (n : Nat) {R1} {s : List Find} (f : Int) (t7 : Int) (t8 : Int) [H1 : EncL cFind R1 s] : LP T (n + 2) 247 2 (frm [(0, .imm 8 R1), (1, .clo 248 [.iptr 1 [[.i .i64 f]] 0 0]), (7, .i .i64 t7), (8, .i .i64 t8)]) [] =
    lmap (run (slices_IndexFunc_Find_cimpl_FindThing_1_l2 s f t7) t8) (fun (zr : Int) => (XE.ret, frm [(4, .i .i64 zr)], [])) (fun (zr : Unit) => (XE.exit 0, frm [], [])) := by
  obtain ⟨rfl⟩ := H1
  rw [LP_eq]
  simp -dsimp only [↓evA, evB, lpG_eq, Tryz.func247, Tryz.f247, a247, TP, TZ, Nat.reduceAdd, Nat.reduceMul, Nat.reduceBEq, Nat.reduceLeDiff, Nat.reduceLT]
  refine run_map (fun (zs : Int) => (frm [(0, .imm 8 (s.map cFind)), (1, .clo 248 [.iptr 1 [[.i .i64 f]] 0 0]), (7, .i .i64 t7), (8, .i .i64 zs)], [])) (evO (fun (zr : Int) => (XE.ret, frm [(4, .i .i64 zr)], [])) (fun (zr : Unit) => (XE.exit 0, frm [], []))) ?_ t8
  intro t8
  simp -dsimp +contextual only [↓evA, evB, evT, tys, encs, Nat.reduceAdd, Nat.reduceMul, Nat.reduceBEq, Nat.reduceLeDiff, Nat.reduceLT, TP, TZ, orc_p, orc_l, orc_a, orc_m, e_impl_FindThing_1]
  try simp only [slices_IndexFunc_Find_cimpl_FindThing_1_l2, evT, encs, c_js, r_map_some, e_need_t]
  all_goals rfl
theorem e_slices_IndexFunc_Find_cimpl_FindThing_1 (n : Nat) {R1} {s : List Find} (c : Int) [H1 : EncL cFind R1 s] : CP T (n + 3) 247 [.imm 8 R1, .clo 248 [.iptr 1 [[.i .i64 c]] 0 0]] = (slices_IndexFunc_Find_cimpl_FindThing_1 s c).map fun r => .i .i64 r := by
  obtain ⟨rfl⟩ := H1
  rw [CP_eq]
  simp -dsimp +contextual only [↓evA, evB, evT, tys, encs, Nat.reduceAdd, Nat.reduceMul, Nat.reduceBEq, Nat.reduceLeDiff, Nat.reduceLT, Tryz.func247, Tryz.f247, a247, TP, TZ, orc_p, orc_l, orc_a, orc_m, e_slices_IndexFunc_Find_cimpl_FindThing_1_l2]
  try simp only [slices_IndexFunc_Find_cimpl_FindThing_1, evT, encs, c_js, r_map_some, e_need_t]
  all_goals rfl
theorem e_impl_FindThing (n : Nat) {R1} {l : List Find} (id : Int) [H1 : EncL cFind R1 l] : CP T (n + 4) 210 [.imm 8 R1, .i .i64 id] = (impl_FindThing l id).map fun r => .i .i64 r := by
  obtain ⟨rfl⟩ := H1
  rw [CP_eq]
  simp -dsimp +contextual only [↓evA, evB, evT, tys, encs, Nat.reduceAdd, Nat.reduceMul, Nat.reduceBEq, Nat.reduceLeDiff, Nat.reduceLT, Tryz.func210, Tryz.f210, a210, TP, TZ, orc_p, orc_l, orc_a, orc_m, e_slices_IndexFunc_Find_cimpl_FindThing_1]
  try simp only [impl_FindThing, evT, encs, c_js, r_map_some, e_need_t]
  all_goals rfl
theorem e_impl_areKept_l5 (n : Nat) (t1xNo : Int) {R1} {t1xFinds : List Find} {R2} {t1xSecrets : List Secret} {R3} {t1xSlots : List Slot} {R4} {t1xClaims : List Claim} {R5} {t1xTrials : List Trial} {R6} {t1xChain : List Hand} {R7} {t1xBook : List Entry} (t1xNow : Int) {R8} {t3 : List Int} {R9} {t23 : List Find} (t24 : Int) (t25 : Int) [H1 : EncL cFind R1 t1xFinds] [H2 : EncL cSecret R2 t1xSecrets] [H3 : EncL cSlot R3 t1xSlots] [H4 : EncL cClaim R4 t1xClaims] [H5 : EncL cTrial R5 t1xTrials] [H6 : EncL cHand R6 t1xChain] [H7 : EncL cEntry R7 t1xBook] [H8 : EncL c_i64 R8 t3] [H9 : EncL cFind R9 t23] : LP T (n + 5) 162 5 (frm [(1, .ptr 0 0 0), (3, .sl 1), (23, .imm 8 R9), (24, .i .i64 t24), (25, .i .i64 t25)]) [some (Ent.box [.i .i64 t1xNo, .imm 8 R1, .imm 3 R2, .imm 3 R3, .imm 5 R4, .imm 4 R5, .imm 5 R6, .imm 4 R7, .i .i64 t1xNow]), some (Ent.lst 1 R8)] =
    lmap (run (impl_areKept_l5 (⟨t1xNo, t1xFinds, t1xSecrets, t1xSlots, t1xClaims, t1xTrials, t1xChain, t1xBook, t1xNow⟩ : House) t3 t23 t24) t25) (fun (zr : Bool) => (XE.ret, frm [(2, .b zr)], [])) (fun (zr : Unit) => (XE.exit 0, frm [(1, .ptr 0 0 0), (3, .sl 1)], [some (Ent.box [.i .i64 (⟨t1xNo, t1xFinds, t1xSecrets, t1xSlots, t1xClaims, t1xTrials, t1xChain, t1xBook, t1xNow⟩ : House).No, .imm 8 ((⟨t1xNo, t1xFinds, t1xSecrets, t1xSlots, t1xClaims, t1xTrials, t1xChain, t1xBook, t1xNow⟩ : House).Finds.map cFind), .imm 3 ((⟨t1xNo, t1xFinds, t1xSecrets, t1xSlots, t1xClaims, t1xTrials, t1xChain, t1xBook, t1xNow⟩ : House).Secrets.map cSecret), .imm 3 ((⟨t1xNo, t1xFinds, t1xSecrets, t1xSlots, t1xClaims, t1xTrials, t1xChain, t1xBook, t1xNow⟩ : House).Slots.map cSlot), .imm 5 ((⟨t1xNo, t1xFinds, t1xSecrets, t1xSlots, t1xClaims, t1xTrials, t1xChain, t1xBook, t1xNow⟩ : House).Claims.map cClaim), .imm 4 ((⟨t1xNo, t1xFinds, t1xSecrets, t1xSlots, t1xClaims, t1xTrials, t1xChain, t1xBook, t1xNow⟩ : House).Trials.map cTrial), .imm 5 ((⟨t1xNo, t1xFinds, t1xSecrets, t1xSlots, t1xClaims, t1xTrials, t1xChain, t1xBook, t1xNow⟩ : House).Chain.map cHand), .imm 4 ((⟨t1xNo, t1xFinds, t1xSecrets, t1xSlots, t1xClaims, t1xTrials, t1xChain, t1xBook, t1xNow⟩ : House).Book.map cEntry), .i .i64 (⟨t1xNo, t1xFinds, t1xSecrets, t1xSlots, t1xClaims, t1xTrials, t1xChain, t1xBook, t1xNow⟩ : House).Now]), some (Ent.lst 1 (t3.map c_i64))])) := by
  obtain ⟨rfl⟩ := H1
  obtain ⟨rfl⟩ := H2
  obtain ⟨rfl⟩ := H3
  obtain ⟨rfl⟩ := H4
  obtain ⟨rfl⟩ := H5
  obtain ⟨rfl⟩ := H6
  obtain ⟨rfl⟩ := H7
  obtain ⟨rfl⟩ := H8
  obtain ⟨rfl⟩ := H9
  rw [LP_eq]
  simp -dsimp only [↓evA, evB, lpG_eq, Tryz.func162, Tryz.f162, a162, TP, TZ, Nat.reduceAdd, Nat.reduceMul, Nat.reduceBEq, Nat.reduceLeDiff, Nat.reduceLT]
  refine run_map (fun (zs : Int) => (frm [(1, .ptr 0 0 0), (3, .sl 1), (23, .imm 8 (t23.map cFind)), (24, .i .i64 t24), (25, .i .i64 zs)], [some (Ent.box [.i .i64 (⟨t1xNo, t1xFinds, t1xSecrets, t1xSlots, t1xClaims, t1xTrials, t1xChain, t1xBook, t1xNow⟩ : House).No, .imm 8 ((⟨t1xNo, t1xFinds, t1xSecrets, t1xSlots, t1xClaims, t1xTrials, t1xChain, t1xBook, t1xNow⟩ : House).Finds.map cFind), .imm 3 ((⟨t1xNo, t1xFinds, t1xSecrets, t1xSlots, t1xClaims, t1xTrials, t1xChain, t1xBook, t1xNow⟩ : House).Secrets.map cSecret), .imm 3 ((⟨t1xNo, t1xFinds, t1xSecrets, t1xSlots, t1xClaims, t1xTrials, t1xChain, t1xBook, t1xNow⟩ : House).Slots.map cSlot), .imm 5 ((⟨t1xNo, t1xFinds, t1xSecrets, t1xSlots, t1xClaims, t1xTrials, t1xChain, t1xBook, t1xNow⟩ : House).Claims.map cClaim), .imm 4 ((⟨t1xNo, t1xFinds, t1xSecrets, t1xSlots, t1xClaims, t1xTrials, t1xChain, t1xBook, t1xNow⟩ : House).Trials.map cTrial), .imm 5 ((⟨t1xNo, t1xFinds, t1xSecrets, t1xSlots, t1xClaims, t1xTrials, t1xChain, t1xBook, t1xNow⟩ : House).Chain.map cHand), .imm 4 ((⟨t1xNo, t1xFinds, t1xSecrets, t1xSlots, t1xClaims, t1xTrials, t1xChain, t1xBook, t1xNow⟩ : House).Book.map cEntry), .i .i64 (⟨t1xNo, t1xFinds, t1xSecrets, t1xSlots, t1xClaims, t1xTrials, t1xChain, t1xBook, t1xNow⟩ : House).Now]), some (Ent.lst 1 (t3.map c_i64))])) (evO (fun (zr : Bool) => (XE.ret, frm [(2, .b zr)], [])) (fun (zr : Unit) => (XE.exit 0, frm [(1, .ptr 0 0 0), (3, .sl 1)], [some (Ent.box [.i .i64 (⟨t1xNo, t1xFinds, t1xSecrets, t1xSlots, t1xClaims, t1xTrials, t1xChain, t1xBook, t1xNow⟩ : House).No, .imm 8 ((⟨t1xNo, t1xFinds, t1xSecrets, t1xSlots, t1xClaims, t1xTrials, t1xChain, t1xBook, t1xNow⟩ : House).Finds.map cFind), .imm 3 ((⟨t1xNo, t1xFinds, t1xSecrets, t1xSlots, t1xClaims, t1xTrials, t1xChain, t1xBook, t1xNow⟩ : House).Secrets.map cSecret), .imm 3 ((⟨t1xNo, t1xFinds, t1xSecrets, t1xSlots, t1xClaims, t1xTrials, t1xChain, t1xBook, t1xNow⟩ : House).Slots.map cSlot), .imm 5 ((⟨t1xNo, t1xFinds, t1xSecrets, t1xSlots, t1xClaims, t1xTrials, t1xChain, t1xBook, t1xNow⟩ : House).Claims.map cClaim), .imm 4 ((⟨t1xNo, t1xFinds, t1xSecrets, t1xSlots, t1xClaims, t1xTrials, t1xChain, t1xBook, t1xNow⟩ : House).Trials.map cTrial), .imm 5 ((⟨t1xNo, t1xFinds, t1xSecrets, t1xSlots, t1xClaims, t1xTrials, t1xChain, t1xBook, t1xNow⟩ : House).Chain.map cHand), .imm 4 ((⟨t1xNo, t1xFinds, t1xSecrets, t1xSlots, t1xClaims, t1xTrials, t1xChain, t1xBook, t1xNow⟩ : House).Book.map cEntry), .i .i64 (⟨t1xNo, t1xFinds, t1xSecrets, t1xSlots, t1xClaims, t1xTrials, t1xChain, t1xBook, t1xNow⟩ : House).Now]), some (Ent.lst 1 (t3.map c_i64))]))) ?_ t25
  intro t25
  simp -dsimp +contextual only [↓evA, evB, evT, tys, encs, Nat.reduceAdd, Nat.reduceMul, Nat.reduceBEq, Nat.reduceLeDiff, Nat.reduceLT, TP, TZ, orc_p, orc_l, orc_a, orc_m, e_impl_slotWith, e_slices_Contains_int]
  try simp only [impl_areKept_l5, evT, encs, c_js, r_map_some, e_need_t]
  all_goals rfl
theorem e_impl_areKept_l11 (n : Nat) (t1xNo : Int) {R1} {t1xFinds : List Find} {R2} {t1xSecrets : List Secret} {R3} {t1xSlots : List Slot} {R4} {t1xClaims : List Claim} {R5} {t1xTrials : List Trial} {R6} {t1xChain : List Hand} {R7} {t1xBook : List Entry} (t1xNow : Int) {R8} {t3 : List Int} {R9} {t57 : List Slot} (t58 : Int) (t59 : Int) [H1 : EncL cFind R1 t1xFinds] [H2 : EncL cSecret R2 t1xSecrets] [H3 : EncL cSlot R3 t1xSlots] [H4 : EncL cClaim R4 t1xClaims] [H5 : EncL cTrial R5 t1xTrials] [H6 : EncL cHand R6 t1xChain] [H7 : EncL cEntry R7 t1xBook] [H8 : EncL c_i64 R8 t3] [H9 : EncL cSlot R9 t57] : LP T (n + 5) 162 11 (frm [(1, .ptr 0 0 0), (3, .sl 1), (57, .imm 3 R9), (58, .i .i64 t58), (59, .i .i64 t59)]) [some (Ent.box [.i .i64 t1xNo, .imm 8 R1, .imm 3 R2, .imm 3 R3, .imm 5 R4, .imm 4 R5, .imm 5 R6, .imm 4 R7, .i .i64 t1xNow]), some (Ent.lst 1 R8)] =
    lmap (run (impl_areKept_l11 (⟨t1xNo, t1xFinds, t1xSecrets, t1xSlots, t1xClaims, t1xTrials, t1xChain, t1xBook, t1xNow⟩ : House) t3 t57 t58) t59) (fun (zr : Bool) => (XE.ret, frm [(2, .b zr)], [])) (fun (zr : Unit) => (XE.exit 2, frm [(1, .ptr 0 0 0), (3, .sl 1)], [some (Ent.box [.i .i64 (⟨t1xNo, t1xFinds, t1xSecrets, t1xSlots, t1xClaims, t1xTrials, t1xChain, t1xBook, t1xNow⟩ : House).No, .imm 8 ((⟨t1xNo, t1xFinds, t1xSecrets, t1xSlots, t1xClaims, t1xTrials, t1xChain, t1xBook, t1xNow⟩ : House).Finds.map cFind), .imm 3 ((⟨t1xNo, t1xFinds, t1xSecrets, t1xSlots, t1xClaims, t1xTrials, t1xChain, t1xBook, t1xNow⟩ : House).Secrets.map cSecret), .imm 3 ((⟨t1xNo, t1xFinds, t1xSecrets, t1xSlots, t1xClaims, t1xTrials, t1xChain, t1xBook, t1xNow⟩ : House).Slots.map cSlot), .imm 5 ((⟨t1xNo, t1xFinds, t1xSecrets, t1xSlots, t1xClaims, t1xTrials, t1xChain, t1xBook, t1xNow⟩ : House).Claims.map cClaim), .imm 4 ((⟨t1xNo, t1xFinds, t1xSecrets, t1xSlots, t1xClaims, t1xTrials, t1xChain, t1xBook, t1xNow⟩ : House).Trials.map cTrial), .imm 5 ((⟨t1xNo, t1xFinds, t1xSecrets, t1xSlots, t1xClaims, t1xTrials, t1xChain, t1xBook, t1xNow⟩ : House).Chain.map cHand), .imm 4 ((⟨t1xNo, t1xFinds, t1xSecrets, t1xSlots, t1xClaims, t1xTrials, t1xChain, t1xBook, t1xNow⟩ : House).Book.map cEntry), .i .i64 (⟨t1xNo, t1xFinds, t1xSecrets, t1xSlots, t1xClaims, t1xTrials, t1xChain, t1xBook, t1xNow⟩ : House).Now]), some (Ent.lst 1 (t3.map c_i64))])) := by
  obtain ⟨rfl⟩ := H1
  obtain ⟨rfl⟩ := H2
  obtain ⟨rfl⟩ := H3
  obtain ⟨rfl⟩ := H4
  obtain ⟨rfl⟩ := H5
  obtain ⟨rfl⟩ := H6
  obtain ⟨rfl⟩ := H7
  obtain ⟨rfl⟩ := H8
  obtain ⟨rfl⟩ := H9
  rw [LP_eq]
  simp -dsimp only [↓evA, evB, lpG_eq, Tryz.func162, Tryz.f162, a162, TP, TZ, Nat.reduceAdd, Nat.reduceMul, Nat.reduceBEq, Nat.reduceLeDiff, Nat.reduceLT]
  refine run_map (fun (zs : Int) => (frm [(1, .ptr 0 0 0), (3, .sl 1), (57, .imm 3 (t57.map cSlot)), (58, .i .i64 t58), (59, .i .i64 zs)], [some (Ent.box [.i .i64 (⟨t1xNo, t1xFinds, t1xSecrets, t1xSlots, t1xClaims, t1xTrials, t1xChain, t1xBook, t1xNow⟩ : House).No, .imm 8 ((⟨t1xNo, t1xFinds, t1xSecrets, t1xSlots, t1xClaims, t1xTrials, t1xChain, t1xBook, t1xNow⟩ : House).Finds.map cFind), .imm 3 ((⟨t1xNo, t1xFinds, t1xSecrets, t1xSlots, t1xClaims, t1xTrials, t1xChain, t1xBook, t1xNow⟩ : House).Secrets.map cSecret), .imm 3 ((⟨t1xNo, t1xFinds, t1xSecrets, t1xSlots, t1xClaims, t1xTrials, t1xChain, t1xBook, t1xNow⟩ : House).Slots.map cSlot), .imm 5 ((⟨t1xNo, t1xFinds, t1xSecrets, t1xSlots, t1xClaims, t1xTrials, t1xChain, t1xBook, t1xNow⟩ : House).Claims.map cClaim), .imm 4 ((⟨t1xNo, t1xFinds, t1xSecrets, t1xSlots, t1xClaims, t1xTrials, t1xChain, t1xBook, t1xNow⟩ : House).Trials.map cTrial), .imm 5 ((⟨t1xNo, t1xFinds, t1xSecrets, t1xSlots, t1xClaims, t1xTrials, t1xChain, t1xBook, t1xNow⟩ : House).Chain.map cHand), .imm 4 ((⟨t1xNo, t1xFinds, t1xSecrets, t1xSlots, t1xClaims, t1xTrials, t1xChain, t1xBook, t1xNow⟩ : House).Book.map cEntry), .i .i64 (⟨t1xNo, t1xFinds, t1xSecrets, t1xSlots, t1xClaims, t1xTrials, t1xChain, t1xBook, t1xNow⟩ : House).Now]), some (Ent.lst 1 (t3.map c_i64))])) (evO (fun (zr : Bool) => (XE.ret, frm [(2, .b zr)], [])) (fun (zr : Unit) => (XE.exit 2, frm [(1, .ptr 0 0 0), (3, .sl 1)], [some (Ent.box [.i .i64 (⟨t1xNo, t1xFinds, t1xSecrets, t1xSlots, t1xClaims, t1xTrials, t1xChain, t1xBook, t1xNow⟩ : House).No, .imm 8 ((⟨t1xNo, t1xFinds, t1xSecrets, t1xSlots, t1xClaims, t1xTrials, t1xChain, t1xBook, t1xNow⟩ : House).Finds.map cFind), .imm 3 ((⟨t1xNo, t1xFinds, t1xSecrets, t1xSlots, t1xClaims, t1xTrials, t1xChain, t1xBook, t1xNow⟩ : House).Secrets.map cSecret), .imm 3 ((⟨t1xNo, t1xFinds, t1xSecrets, t1xSlots, t1xClaims, t1xTrials, t1xChain, t1xBook, t1xNow⟩ : House).Slots.map cSlot), .imm 5 ((⟨t1xNo, t1xFinds, t1xSecrets, t1xSlots, t1xClaims, t1xTrials, t1xChain, t1xBook, t1xNow⟩ : House).Claims.map cClaim), .imm 4 ((⟨t1xNo, t1xFinds, t1xSecrets, t1xSlots, t1xClaims, t1xTrials, t1xChain, t1xBook, t1xNow⟩ : House).Trials.map cTrial), .imm 5 ((⟨t1xNo, t1xFinds, t1xSecrets, t1xSlots, t1xClaims, t1xTrials, t1xChain, t1xBook, t1xNow⟩ : House).Chain.map cHand), .imm 4 ((⟨t1xNo, t1xFinds, t1xSecrets, t1xSlots, t1xClaims, t1xTrials, t1xChain, t1xBook, t1xNow⟩ : House).Book.map cEntry), .i .i64 (⟨t1xNo, t1xFinds, t1xSecrets, t1xSlots, t1xClaims, t1xTrials, t1xChain, t1xBook, t1xNow⟩ : House).Now]), some (Ent.lst 1 (t3.map c_i64))]))) ?_ t59
  intro t59
  simp -dsimp +contextual only [↓evA, evB, evT, tys, encs, Nat.reduceAdd, Nat.reduceMul, Nat.reduceBEq, Nat.reduceLeDiff, Nat.reduceLT, TP, TZ, orc_p, orc_l, orc_a, orc_m, e_impl_FindThing]
  try simp only [impl_areKept_l11, evT, encs, c_js, r_map_some, e_need_t]
  all_goals rfl
theorem e_impl_areKept_l17 (n : Nat) (t1xNo : Int) {R1} {t1xFinds : List Find} {R2} {t1xSecrets : List Secret} {R3} {t1xSlots : List Slot} {R4} {t1xClaims : List Claim} {R5} {t1xTrials : List Trial} {R6} {t1xChain : List Hand} {R7} {t1xBook : List Entry} (t1xNow : Int) {R8} {t75 : List Int} (t76 : Int) (t77 : Int) [H1 : EncL cFind R1 t1xFinds] [H2 : EncL cSecret R2 t1xSecrets] [H3 : EncL cSlot R3 t1xSlots] [H4 : EncL cClaim R4 t1xClaims] [H5 : EncL cTrial R5 t1xTrials] [H6 : EncL cHand R6 t1xChain] [H7 : EncL cEntry R7 t1xBook] [H8 : EncL c_i64 R8 t75] : LP T (n + 5) 162 17 (frm [(1, .ptr 0 0 0), (75, .sl 1), (76, .i .i64 t76), (77, .i .i64 t77)]) [some (Ent.box [.i .i64 t1xNo, .imm 8 R1, .imm 3 R2, .imm 3 R3, .imm 5 R4, .imm 4 R5, .imm 5 R6, .imm 4 R7, .i .i64 t1xNow]), some (Ent.lst 1 R8)] =
    lmap (run (impl_areKept_l17 (⟨t1xNo, t1xFinds, t1xSecrets, t1xSlots, t1xClaims, t1xTrials, t1xChain, t1xBook, t1xNow⟩ : House) t75 t76) t77) (fun (zr : Bool) => (XE.ret, frm [(2, .b zr)], [])) (fun (zr : Unit) => (XE.exit 4, frm [], [])) := by
  obtain ⟨rfl⟩ := H1
  obtain ⟨rfl⟩ := H2
  obtain ⟨rfl⟩ := H3
  obtain ⟨rfl⟩ := H4
  obtain ⟨rfl⟩ := H5
  obtain ⟨rfl⟩ := H6
  obtain ⟨rfl⟩ := H7
  obtain ⟨rfl⟩ := H8
  rw [LP_eq]
  simp -dsimp only [↓evA, evB, lpG_eq, Tryz.func162, Tryz.f162, a162, TP, TZ, Nat.reduceAdd, Nat.reduceMul, Nat.reduceBEq, Nat.reduceLeDiff, Nat.reduceLT]
  refine run_map (fun (zs : Int) => (frm [(1, .ptr 0 0 0), (75, .sl 1), (76, .i .i64 t76), (77, .i .i64 zs)], [some (Ent.box [.i .i64 (⟨t1xNo, t1xFinds, t1xSecrets, t1xSlots, t1xClaims, t1xTrials, t1xChain, t1xBook, t1xNow⟩ : House).No, .imm 8 ((⟨t1xNo, t1xFinds, t1xSecrets, t1xSlots, t1xClaims, t1xTrials, t1xChain, t1xBook, t1xNow⟩ : House).Finds.map cFind), .imm 3 ((⟨t1xNo, t1xFinds, t1xSecrets, t1xSlots, t1xClaims, t1xTrials, t1xChain, t1xBook, t1xNow⟩ : House).Secrets.map cSecret), .imm 3 ((⟨t1xNo, t1xFinds, t1xSecrets, t1xSlots, t1xClaims, t1xTrials, t1xChain, t1xBook, t1xNow⟩ : House).Slots.map cSlot), .imm 5 ((⟨t1xNo, t1xFinds, t1xSecrets, t1xSlots, t1xClaims, t1xTrials, t1xChain, t1xBook, t1xNow⟩ : House).Claims.map cClaim), .imm 4 ((⟨t1xNo, t1xFinds, t1xSecrets, t1xSlots, t1xClaims, t1xTrials, t1xChain, t1xBook, t1xNow⟩ : House).Trials.map cTrial), .imm 5 ((⟨t1xNo, t1xFinds, t1xSecrets, t1xSlots, t1xClaims, t1xTrials, t1xChain, t1xBook, t1xNow⟩ : House).Chain.map cHand), .imm 4 ((⟨t1xNo, t1xFinds, t1xSecrets, t1xSlots, t1xClaims, t1xTrials, t1xChain, t1xBook, t1xNow⟩ : House).Book.map cEntry), .i .i64 (⟨t1xNo, t1xFinds, t1xSecrets, t1xSlots, t1xClaims, t1xTrials, t1xChain, t1xBook, t1xNow⟩ : House).Now]), some (Ent.lst 1 (t75.map c_i64))])) (evO (fun (zr : Bool) => (XE.ret, frm [(2, .b zr)], [])) (fun (zr : Unit) => (XE.exit 4, frm [], []))) ?_ t77
  intro t77
  simp -dsimp +contextual only [↓evA, evB, evT, tys, encs, Nat.reduceAdd, Nat.reduceMul, Nat.reduceBEq, Nat.reduceLeDiff, Nat.reduceLT, TP, TZ, orc_p, orc_l, orc_a, orc_m, e_impl_FindThing]
  try simp only [impl_areKept_l17, evT, encs, c_js, r_map_some, e_need_t]
  all_goals rfl
theorem e_impl_areKept (n : Nat) (vhxNo : Int) {R1} {vhxFinds : List Find} {R2} {vhxSecrets : List Secret} {R3} {vhxSlots : List Slot} {R4} {vhxClaims : List Claim} {R5} {vhxTrials : List Trial} {R6} {vhxChain : List Hand} {R7} {vhxBook : List Entry} (vhxNow : Int) [H1 : EncL cFind R1 vhxFinds] [H2 : EncL cSecret R2 vhxSecrets] [H3 : EncL cSlot R3 vhxSlots] [H4 : EncL cClaim R4 vhxClaims] [H5 : EncL cTrial R5 vhxTrials] [H6 : EncL cHand R6 vhxChain] [H7 : EncL cEntry R7 vhxBook] : CP T (n + 10) 162 [.agg [.i .i64 vhxNo, .imm 8 R1, .imm 3 R2, .imm 3 R3, .imm 5 R4, .imm 4 R5, .imm 5 R6, .imm 4 R7, .i .i64 vhxNow]] = (impl_areKept (⟨vhxNo, vhxFinds, vhxSecrets, vhxSlots, vhxClaims, vhxTrials, vhxChain, vhxBook, vhxNow⟩ : House)).map fun r => .b r := by
  obtain ⟨rfl⟩ := H1
  obtain ⟨rfl⟩ := H2
  obtain ⟨rfl⟩ := H3
  obtain ⟨rfl⟩ := H4
  obtain ⟨rfl⟩ := H5
  obtain ⟨rfl⟩ := H6
  obtain ⟨rfl⟩ := H7
  rw [CP_eq]
  simp -dsimp +contextual only [↓evA, evB, evT, tys, encs, Nat.reduceAdd, Nat.reduceMul, Nat.reduceBEq, Nat.reduceLeDiff, Nat.reduceLT, Tryz.func162, Tryz.f162, a162, TP, TZ, orc_p, orc_l, orc_a, orc_m, e_impl_InHouse, e_impl_areKept_l5, e_impl_areKept_l11, e_impl_areKept_l17]
  try simp only [impl_areKept, evT, encs, c_js, r_map_some, e_need_t]
  all_goals rfl
theorem e_impl_IsTrial (n : Nat) (xxClaim : Int) (xxAsked : Int) (xxRight : Int) (xxWrong : Int) : CP T (n + 2) 196 [.agg [.i .i64 xxClaim, .i .i64 xxAsked, .i .i64 xxRight, .i .i64 xxWrong]] = (impl_IsTrial (⟨xxClaim, xxAsked, xxRight, xxWrong⟩ : Trial)).map fun r => .b r := by
  rw [CP_eq]
  simp -dsimp +contextual only [↓evA, evB, evT, tys, encs, Nat.reduceAdd, Nat.reduceMul, Nat.reduceBEq, Nat.reduceLeDiff, Nat.reduceLT, Tryz.func196, Tryz.f196, a196, TP, TZ, orc_p, orc_l, orc_a, orc_m, e_impl_InRange]
  try simp only [impl_IsTrial, evT, encs, c_js, r_map_some, e_need_t]
  all_goals rfl
theorem e_impl_secretOf_1 (n : Nat) (xxThing : Int) {R1} {xxMarks : List Mark} (xxSalt : Int) (c : Int) [H1 : EncL cMark R1 xxMarks] : CP T (n + 1) 242 [.agg [.i .i64 xxThing, .imm 2 R1, .i .i64 xxSalt], .iptr 1 [[.i .i64 c]] 0 0] = (impl_secretOf_1 (⟨xxThing, xxMarks, xxSalt⟩ : Secret) c).map fun r => .b r := by
  obtain ⟨rfl⟩ := H1
  rw [CP_eq]
  simp -dsimp +contextual only [↓evA, evB, evT, tys, encs, Nat.reduceAdd, Nat.reduceMul, Nat.reduceBEq, Nat.reduceLeDiff, Nat.reduceLT, Tryz.func242, Tryz.f242, a242, TP, TZ, orc_p, orc_l, orc_a, orc_m]
  try simp only [impl_secretOf_1, evT, encs, c_js, r_map_some, e_need_t]
  all_goals rfl
theorem e_slices_IndexFunc_Secret_cimpl_secretOf_1_l2 (n : Nat) {R1} {s : List Secret} (f : Int) (t7 : Int) (t8 : Int) [H1 : EncL cSecret R1 s] : LP T (n + 2) 241 2 (frm [(0, .imm 3 R1), (1, .clo 242 [.iptr 1 [[.i .i64 f]] 0 0]), (7, .i .i64 t7), (8, .i .i64 t8)]) [] =
    lmap (run (slices_IndexFunc_Secret_cimpl_secretOf_1_l2 s f t7) t8) (fun (zr : Int) => (XE.ret, frm [(4, .i .i64 zr)], [])) (fun (zr : Unit) => (XE.exit 0, frm [], [])) := by
  obtain ⟨rfl⟩ := H1
  rw [LP_eq]
  simp -dsimp only [↓evA, evB, lpG_eq, Tryz.func241, Tryz.f241, a241, TP, TZ, Nat.reduceAdd, Nat.reduceMul, Nat.reduceBEq, Nat.reduceLeDiff, Nat.reduceLT]
  refine run_map (fun (zs : Int) => (frm [(0, .imm 3 (s.map cSecret)), (1, .clo 242 [.iptr 1 [[.i .i64 f]] 0 0]), (7, .i .i64 t7), (8, .i .i64 zs)], [])) (evO (fun (zr : Int) => (XE.ret, frm [(4, .i .i64 zr)], [])) (fun (zr : Unit) => (XE.exit 0, frm [], []))) ?_ t8
  intro t8
  simp -dsimp +contextual only [↓evA, evB, evT, tys, encs, Nat.reduceAdd, Nat.reduceMul, Nat.reduceBEq, Nat.reduceLeDiff, Nat.reduceLT, TP, TZ, orc_p, orc_l, orc_a, orc_m, e_impl_secretOf_1]
  try simp only [slices_IndexFunc_Secret_cimpl_secretOf_1_l2, evT, encs, c_js, r_map_some, e_need_t]
  all_goals rfl
theorem e_slices_IndexFunc_Secret_cimpl_secretOf_1 (n : Nat) {R1} {s : List Secret} (c : Int) [H1 : EncL cSecret R1 s] : CP T (n + 3) 241 [.imm 3 R1, .clo 242 [.iptr 1 [[.i .i64 c]] 0 0]] = (slices_IndexFunc_Secret_cimpl_secretOf_1 s c).map fun r => .i .i64 r := by
  obtain ⟨rfl⟩ := H1
  rw [CP_eq]
  simp -dsimp +contextual only [↓evA, evB, evT, tys, encs, Nat.reduceAdd, Nat.reduceMul, Nat.reduceBEq, Nat.reduceLeDiff, Nat.reduceLT, Tryz.func241, Tryz.f241, a241, TP, TZ, orc_p, orc_l, orc_a, orc_m, e_slices_IndexFunc_Secret_cimpl_secretOf_1_l2]
  try simp only [slices_IndexFunc_Secret_cimpl_secretOf_1, evT, encs, c_js, r_map_some, e_need_t]
  all_goals rfl
theorem e_impl_secretOf (n : Nat) {R1} {l : List Secret} (thing : Int) [H1 : EncL cSecret R1 l] : CP T (n + 4) 192 [.imm 3 R1, .i .i64 thing] = (impl_secretOf l thing).map fun r => .i .i64 r := by
  obtain ⟨rfl⟩ := H1
  rw [CP_eq]
  simp -dsimp +contextual only [↓evA, evB, evT, tys, encs, Nat.reduceAdd, Nat.reduceMul, Nat.reduceBEq, Nat.reduceLeDiff, Nat.reduceLT, Tryz.func192, Tryz.f192, a192, TP, TZ, orc_p, orc_l, orc_a, orc_m, e_slices_IndexFunc_Secret_cimpl_secretOf_1]
  try simp only [impl_secretOf, evT, encs, c_js, r_map_some, e_need_t]
  all_goals rfl
theorem e_slices_Clone_Mark (n : Nat) {R1} {s : List Mark} [H1 : EncL cMark R1 s] : CP T (n + 1) 193 [.imm 2 R1] = (slices_Clone_Mark s).map fun r => .own 2 (r.map cMark) := by
  obtain ⟨rfl⟩ := H1
  rw [CP_eq]
  simp -dsimp +contextual only [↓evA, evB, evT, tys, encs, Nat.reduceAdd, Nat.reduceMul, Nat.reduceBEq, Nat.reduceLeDiff, Nat.reduceLT, Tryz.func193, Tryz.f193, a193, TP, TZ, orc_p, orc_l, orc_a, orc_m]
  try simp only [slices_Clone_Mark, evT, encs, c_js, r_map_some, e_need_t]
  all_goals rfl
theorem e_impl_MarksOf (n : Nat) {R1} {l : List Secret} (thing : Int) [H1 : EncL cSecret R1 l] : CP T (n + 5) 107 [.imm 3 R1, .i .i64 thing] = (impl_MarksOf l thing).map fun r => .own 2 (r.map cMark) := by
  obtain ⟨rfl⟩ := H1
  rw [CP_eq]
  simp -dsimp +contextual only [↓evA, evB, evT, tys, encs, Nat.reduceAdd, Nat.reduceMul, Nat.reduceBEq, Nat.reduceLeDiff, Nat.reduceLT, Tryz.func107, Tryz.f107, a107, TP, TZ, orc_p, orc_l, orc_a, orc_m, e_impl_secretOf, e_slices_Clone_Mark]
  try simp only [impl_MarksOf, evT, encs, c_js, r_map_some, e_need_t]
  all_goals rfl
theorem e_impl_NeedFor (n : Nat) {R1} {l : List Mark} [H1 : EncL cMark R1 l] : CP T (n + 1) 198 [.imm 2 R1] = (impl_NeedFor l).map fun r => .i .i64 r := by
  obtain ⟨rfl⟩ := H1
  rw [CP_eq]
  simp -dsimp +contextual only [↓evA, evB, evT, tys, encs, Nat.reduceAdd, Nat.reduceMul, Nat.reduceBEq, Nat.reduceLeDiff, Nat.reduceLT, Tryz.func198, Tryz.f198, a198, TP, TZ, orc_p, orc_l, orc_a, orc_m]
  try simp only [impl_NeedFor, evT, encs, c_js, r_map_some, e_need_t]
  all_goals rfl
theorem e_impl_TrialState (n : Nat) {R1} {l : List Mark} (xxClaim : Int) (xxAsked : Int) (xxRight : Int) (xxWrong : Int) [H1 : EncL cMark R1 l] : CP T (n + 4) 109 [.imm 2 R1, .agg [.i .i64 xxClaim, .i .i64 xxAsked, .i .i64 xxRight, .i .i64 xxWrong]] = (impl_TrialState l (⟨xxClaim, xxAsked, xxRight, xxWrong⟩ : Trial)).map fun r => .i .i64 r := by
  obtain ⟨rfl⟩ := H1
  rw [CP_eq]
  simp -dsimp +contextual only [↓evA, evB, evT, tys, encs, Nat.reduceAdd, Nat.reduceMul, Nat.reduceBEq, Nat.reduceLeDiff, Nat.reduceLT, Tryz.func109, Tryz.f109, a109, TP, TZ, orc_p, orc_l, orc_a, orc_m, e_impl_IsTrial, e_impl_AreMarks, e_impl_NeedFor]
  try simp only [impl_TrialState, evT, encs, c_js, r_map_some, e_need_t]
  all_goals rfl
theorem e_impl_wanted (n : Nat) (state : Int) : CP T (n + 1) 238 [.i .i64 state] = (impl_wanted state).map fun r => .i .i64 r := by
  rw [CP_eq]
  simp -dsimp +contextual only [↓evA, evB, evT, tys, encs, Nat.reduceAdd, Nat.reduceMul, Nat.reduceBEq, Nat.reduceLeDiff, Nat.reduceLT, Tryz.func238, Tryz.f238, a238, TP, TZ, orc_p, orc_l, orc_a, orc_m]
  try simp only [impl_wanted, evT, encs, c_js, r_map_some, e_need_t]
  all_goals rfl
theorem e_impl_areTrials_l4 (n : Nat) (vhxNo : Int) {R1} {vhxFinds : List Find} {R2} {vhxSecrets : List Secret} {R3} {vhxSlots : List Slot} {R4} {vhxClaims : List Claim} {R5} {vhxTrials : List Trial} {R6} {vhxChain : List Hand} {R7} {vhxBook : List Entry} (vhxNow : Int) {R8} {t14 : List Claim} (t15 : Int) (t16 : Int) [H1 : EncL cFind R1 vhxFinds] [H2 : EncL cSecret R2 vhxSecrets] [H3 : EncL cSlot R3 vhxSlots] [H4 : EncL cClaim R4 vhxClaims] [H5 : EncL cTrial R5 vhxTrials] [H6 : EncL cHand R6 vhxChain] [H7 : EncL cEntry R7 vhxBook] [H8 : EncL cClaim R8 t14] : LP T (n + 6) 163 4 (frm [(1, .ptr 0 0 0), (14, .imm 5 R8), (15, .i .i64 t15), (16, .i .i64 t16)]) [some (Ent.box [.i .i64 vhxNo, .imm 8 R1, .imm 3 R2, .imm 3 R3, .imm 5 R4, .imm 4 R5, .imm 5 R6, .imm 4 R7, .i .i64 vhxNow])] =
    lmap (run (impl_areTrials_l4 (⟨vhxNo, vhxFinds, vhxSecrets, vhxSlots, vhxClaims, vhxTrials, vhxChain, vhxBook, vhxNow⟩ : House) t14 t15) t16) (fun (zr : Bool) => (XE.ret, frm [(2, .b zr)], [])) (fun (zr : Unit) => (XE.exit 0, frm [], [])) := by
  obtain ⟨rfl⟩ := H1
  obtain ⟨rfl⟩ := H2
  obtain ⟨rfl⟩ := H3
  obtain ⟨rfl⟩ := H4
  obtain ⟨rfl⟩ := H5
  obtain ⟨rfl⟩ := H6
  obtain ⟨rfl⟩ := H7
  obtain ⟨rfl⟩ := H8
  rw [LP_eq]
  simp -dsimp only [↓evA, evB, lpG_eq, Tryz.func163, Tryz.f163, a163, TP, TZ, Nat.reduceAdd, Nat.reduceMul, Nat.reduceBEq, Nat.reduceLeDiff, Nat.reduceLT]
  refine run_map (fun (zs : Int) => (frm [(1, .ptr 0 0 0), (14, .imm 5 (t14.map cClaim)), (15, .i .i64 t15), (16, .i .i64 zs)], [some (Ent.box [.i .i64 (⟨vhxNo, vhxFinds, vhxSecrets, vhxSlots, vhxClaims, vhxTrials, vhxChain, vhxBook, vhxNow⟩ : House).No, .imm 8 ((⟨vhxNo, vhxFinds, vhxSecrets, vhxSlots, vhxClaims, vhxTrials, vhxChain, vhxBook, vhxNow⟩ : House).Finds.map cFind), .imm 3 ((⟨vhxNo, vhxFinds, vhxSecrets, vhxSlots, vhxClaims, vhxTrials, vhxChain, vhxBook, vhxNow⟩ : House).Secrets.map cSecret), .imm 3 ((⟨vhxNo, vhxFinds, vhxSecrets, vhxSlots, vhxClaims, vhxTrials, vhxChain, vhxBook, vhxNow⟩ : House).Slots.map cSlot), .imm 5 ((⟨vhxNo, vhxFinds, vhxSecrets, vhxSlots, vhxClaims, vhxTrials, vhxChain, vhxBook, vhxNow⟩ : House).Claims.map cClaim), .imm 4 ((⟨vhxNo, vhxFinds, vhxSecrets, vhxSlots, vhxClaims, vhxTrials, vhxChain, vhxBook, vhxNow⟩ : House).Trials.map cTrial), .imm 5 ((⟨vhxNo, vhxFinds, vhxSecrets, vhxSlots, vhxClaims, vhxTrials, vhxChain, vhxBook, vhxNow⟩ : House).Chain.map cHand), .imm 4 ((⟨vhxNo, vhxFinds, vhxSecrets, vhxSlots, vhxClaims, vhxTrials, vhxChain, vhxBook, vhxNow⟩ : House).Book.map cEntry), .i .i64 (⟨vhxNo, vhxFinds, vhxSecrets, vhxSlots, vhxClaims, vhxTrials, vhxChain, vhxBook, vhxNow⟩ : House).Now])])) (evO (fun (zr : Bool) => (XE.ret, frm [(2, .b zr)], [])) (fun (zr : Unit) => (XE.exit 0, frm [], []))) ?_ t16
  intro t16
  simp -dsimp +contextual only [↓evA, evB, evT, tys, encs, Nat.reduceAdd, Nat.reduceMul, Nat.reduceBEq, Nat.reduceLeDiff, Nat.reduceLT, TP, TZ, orc_p, orc_l, orc_a, orc_m, e_impl_FindThing, e_impl_IsTrial, e_impl_MarksOf, e_impl_TrialState, e_impl_wanted]
  try simp only [impl_areTrials_l4, evT, encs, c_js, r_map_some, e_need_t]
  all_goals rfl
theorem e_impl_areTrials (n : Nat) (vhxNo : Int) {R1} {vhxFinds : List Find} {R2} {vhxSecrets : List Secret} {R3} {vhxSlots : List Slot} {R4} {vhxClaims : List Claim} {R5} {vhxTrials : List Trial} {R6} {vhxChain : List Hand} {R7} {vhxBook : List Entry} (vhxNow : Int) [H1 : EncL cFind R1 vhxFinds] [H2 : EncL cSecret R2 vhxSecrets] [H3 : EncL cSlot R3 vhxSlots] [H4 : EncL cClaim R4 vhxClaims] [H5 : EncL cTrial R5 vhxTrials] [H6 : EncL cHand R6 vhxChain] [H7 : EncL cEntry R7 vhxBook] : CP T (n + 7) 163 [.agg [.i .i64 vhxNo, .imm 8 R1, .imm 3 R2, .imm 3 R3, .imm 5 R4, .imm 4 R5, .imm 5 R6, .imm 4 R7, .i .i64 vhxNow]] = (impl_areTrials (⟨vhxNo, vhxFinds, vhxSecrets, vhxSlots, vhxClaims, vhxTrials, vhxChain, vhxBook, vhxNow⟩ : House)).map fun r => .b r := by
  obtain ⟨rfl⟩ := H1
  obtain ⟨rfl⟩ := H2
  obtain ⟨rfl⟩ := H3
  obtain ⟨rfl⟩ := H4
  obtain ⟨rfl⟩ := H5
  obtain ⟨rfl⟩ := H6
  obtain ⟨rfl⟩ := H7
  rw [CP_eq]
  simp -dsimp +contextual only [↓evA, evB, evT, tys, encs, Nat.reduceAdd, Nat.reduceMul, Nat.reduceBEq, Nat.reduceLeDiff, Nat.reduceLT, Tryz.func163, Tryz.f163, a163, TP, TZ, orc_p, orc_l, orc_a, orc_m, e_impl_areTrials_l4]
  try simp only [impl_areTrials, evT, encs, c_js, r_map_some, e_need_t]
  all_goals rfl
theorem e_impl_latest_l3 (n : Nat) (vhxNo : Int) {R1} {vhxFinds : List Find} {R2} {vhxSecrets : List Secret} {R3} {vhxSlots : List Slot} {R4} {vhxClaims : List Claim} {R5} {vhxTrials : List Trial} {R6} {vhxChain : List Hand} {R7} {vhxBook : List Entry} (vhxNow : Int) (vat : Int) {R8} {t13 : List Find} (t14 : Int) (t15 : Int) [H1 : EncL cFind R1 vhxFinds] [H2 : EncL cSecret R2 vhxSecrets] [H3 : EncL cSlot R3 vhxSlots] [H4 : EncL cClaim R4 vhxClaims] [H5 : EncL cTrial R5 vhxTrials] [H6 : EncL cHand R6 vhxChain] [H7 : EncL cEntry R7 vhxBook] [H8 : EncL cFind R8 t13] : LP T (n + 1) 164 3 (frm [(1, .ptr 0 0 0), (3, .i .i64 vat), (13, .imm 8 R8), (14, .i .i64 t14), (15, .i .i64 t15)]) [some (Ent.box [.i .i64 vhxNo, .imm 8 R1, .imm 3 R2, .imm 3 R3, .imm 5 R4, .imm 4 R5, .imm 5 R6, .imm 4 R7, .i .i64 vhxNow])] =
    (run (impl_latest_l3 (⟨vhxNo, vhxFinds, vhxSecrets, vhxSlots, vhxClaims, vhxTrials, vhxChain, vhxBook, vhxNow⟩ : House) t13 t14) (vat, t15)).map (fun (zr : Int) => (XE.exit 0, frm [(1, .ptr 0 0 0), (3, .i .i64 zr)], [some (Ent.box [.i .i64 (⟨vhxNo, vhxFinds, vhxSecrets, vhxSlots, vhxClaims, vhxTrials, vhxChain, vhxBook, vhxNow⟩ : House).No, .imm 8 ((⟨vhxNo, vhxFinds, vhxSecrets, vhxSlots, vhxClaims, vhxTrials, vhxChain, vhxBook, vhxNow⟩ : House).Finds.map cFind), .imm 3 ((⟨vhxNo, vhxFinds, vhxSecrets, vhxSlots, vhxClaims, vhxTrials, vhxChain, vhxBook, vhxNow⟩ : House).Secrets.map cSecret), .imm 3 ((⟨vhxNo, vhxFinds, vhxSecrets, vhxSlots, vhxClaims, vhxTrials, vhxChain, vhxBook, vhxNow⟩ : House).Slots.map cSlot), .imm 5 ((⟨vhxNo, vhxFinds, vhxSecrets, vhxSlots, vhxClaims, vhxTrials, vhxChain, vhxBook, vhxNow⟩ : House).Claims.map cClaim), .imm 4 ((⟨vhxNo, vhxFinds, vhxSecrets, vhxSlots, vhxClaims, vhxTrials, vhxChain, vhxBook, vhxNow⟩ : House).Trials.map cTrial), .imm 5 ((⟨vhxNo, vhxFinds, vhxSecrets, vhxSlots, vhxClaims, vhxTrials, vhxChain, vhxBook, vhxNow⟩ : House).Chain.map cHand), .imm 4 ((⟨vhxNo, vhxFinds, vhxSecrets, vhxSlots, vhxClaims, vhxTrials, vhxChain, vhxBook, vhxNow⟩ : House).Book.map cEntry), .i .i64 (⟨vhxNo, vhxFinds, vhxSecrets, vhxSlots, vhxClaims, vhxTrials, vhxChain, vhxBook, vhxNow⟩ : House).Now])])) := by
  obtain ⟨rfl⟩ := H1
  obtain ⟨rfl⟩ := H2
  obtain ⟨rfl⟩ := H3
  obtain ⟨rfl⟩ := H4
  obtain ⟨rfl⟩ := H5
  obtain ⟨rfl⟩ := H6
  obtain ⟨rfl⟩ := H7
  obtain ⟨rfl⟩ := H8
  rw [LP_eq]
  simp -dsimp only [↓evA, evB, lpG_eq, Tryz.func164, Tryz.f164, a164, TP, TZ, Nat.reduceAdd, Nat.reduceMul, Nat.reduceBEq, Nat.reduceLeDiff, Nat.reduceLT]
  refine run_map (fun (zs : Int × Int) => (frm [(1, .ptr 0 0 0), (3, .i .i64 zs.1), (13, .imm 8 (t13.map cFind)), (14, .i .i64 t14), (15, .i .i64 zs.2)], [some (Ent.box [.i .i64 (⟨vhxNo, vhxFinds, vhxSecrets, vhxSlots, vhxClaims, vhxTrials, vhxChain, vhxBook, vhxNow⟩ : House).No, .imm 8 ((⟨vhxNo, vhxFinds, vhxSecrets, vhxSlots, vhxClaims, vhxTrials, vhxChain, vhxBook, vhxNow⟩ : House).Finds.map cFind), .imm 3 ((⟨vhxNo, vhxFinds, vhxSecrets, vhxSlots, vhxClaims, vhxTrials, vhxChain, vhxBook, vhxNow⟩ : House).Secrets.map cSecret), .imm 3 ((⟨vhxNo, vhxFinds, vhxSecrets, vhxSlots, vhxClaims, vhxTrials, vhxChain, vhxBook, vhxNow⟩ : House).Slots.map cSlot), .imm 5 ((⟨vhxNo, vhxFinds, vhxSecrets, vhxSlots, vhxClaims, vhxTrials, vhxChain, vhxBook, vhxNow⟩ : House).Claims.map cClaim), .imm 4 ((⟨vhxNo, vhxFinds, vhxSecrets, vhxSlots, vhxClaims, vhxTrials, vhxChain, vhxBook, vhxNow⟩ : House).Trials.map cTrial), .imm 5 ((⟨vhxNo, vhxFinds, vhxSecrets, vhxSlots, vhxClaims, vhxTrials, vhxChain, vhxBook, vhxNow⟩ : House).Chain.map cHand), .imm 4 ((⟨vhxNo, vhxFinds, vhxSecrets, vhxSlots, vhxClaims, vhxTrials, vhxChain, vhxBook, vhxNow⟩ : House).Book.map cEntry), .i .i64 (⟨vhxNo, vhxFinds, vhxSecrets, vhxSlots, vhxClaims, vhxTrials, vhxChain, vhxBook, vhxNow⟩ : House).Now])])) (fun (zr : Int) => (XE.exit 0, frm [(1, .ptr 0 0 0), (3, .i .i64 zr)], [some (Ent.box [.i .i64 (⟨vhxNo, vhxFinds, vhxSecrets, vhxSlots, vhxClaims, vhxTrials, vhxChain, vhxBook, vhxNow⟩ : House).No, .imm 8 ((⟨vhxNo, vhxFinds, vhxSecrets, vhxSlots, vhxClaims, vhxTrials, vhxChain, vhxBook, vhxNow⟩ : House).Finds.map cFind), .imm 3 ((⟨vhxNo, vhxFinds, vhxSecrets, vhxSlots, vhxClaims, vhxTrials, vhxChain, vhxBook, vhxNow⟩ : House).Secrets.map cSecret), .imm 3 ((⟨vhxNo, vhxFinds, vhxSecrets, vhxSlots, vhxClaims, vhxTrials, vhxChain, vhxBook, vhxNow⟩ : House).Slots.map cSlot), .imm 5 ((⟨vhxNo, vhxFinds, vhxSecrets, vhxSlots, vhxClaims, vhxTrials, vhxChain, vhxBook, vhxNow⟩ : House).Claims.map cClaim), .imm 4 ((⟨vhxNo, vhxFinds, vhxSecrets, vhxSlots, vhxClaims, vhxTrials, vhxChain, vhxBook, vhxNow⟩ : House).Trials.map cTrial), .imm 5 ((⟨vhxNo, vhxFinds, vhxSecrets, vhxSlots, vhxClaims, vhxTrials, vhxChain, vhxBook, vhxNow⟩ : House).Chain.map cHand), .imm 4 ((⟨vhxNo, vhxFinds, vhxSecrets, vhxSlots, vhxClaims, vhxTrials, vhxChain, vhxBook, vhxNow⟩ : House).Book.map cEntry), .i .i64 (⟨vhxNo, vhxFinds, vhxSecrets, vhxSlots, vhxClaims, vhxTrials, vhxChain, vhxBook, vhxNow⟩ : House).Now])])) ?_ (vat, t15)
  rintro ⟨vat, t15⟩
  simp -dsimp +contextual only [↓evA, evB, evT, tys, encs, Nat.reduceAdd, Nat.reduceMul, Nat.reduceBEq, Nat.reduceLeDiff, Nat.reduceLT, TP, TZ, orc_p, orc_l, orc_a, orc_m]
  try simp only [impl_latest_l3, evT, encs, c_js, r_map_some, e_need_t]
  all_goals rfl
theorem e_impl_latest_l8 (n : Nat) (vhxNo : Int) {R1} {vhxFinds : List Find} {R2} {vhxSecrets : List Secret} {R3} {vhxSlots : List Slot} {R4} {vhxClaims : List Claim} {R5} {vhxTrials : List Trial} {R6} {vhxChain : List Hand} {R7} {vhxBook : List Entry} (vhxNow : Int) (vat : Int) {R8} {t25 : List Claim} (t26 : Int) (t27 : Int) [H1 : EncL cFind R1 vhxFinds] [H2 : EncL cSecret R2 vhxSecrets] [H3 : EncL cSlot R3 vhxSlots] [H4 : EncL cClaim R4 vhxClaims] [H5 : EncL cTrial R5 vhxTrials] [H6 : EncL cHand R6 vhxChain] [H7 : EncL cEntry R7 vhxBook] [H8 : EncL cClaim R8 t25] : LP T (n + 1) 164 8 (frm [(1, .ptr 0 0 0), (3, .i .i64 vat), (25, .imm 5 R8), (26, .i .i64 t26), (27, .i .i64 t27)]) [some (Ent.box [.i .i64 vhxNo, .imm 8 R1, .imm 3 R2, .imm 3 R3, .imm 5 R4, .imm 4 R5, .imm 5 R6, .imm 4 R7, .i .i64 vhxNow])] =
    (run (impl_latest_l8 (⟨vhxNo, vhxFinds, vhxSecrets, vhxSlots, vhxClaims, vhxTrials, vhxChain, vhxBook, vhxNow⟩ : House) t25 t26) (vat, t27)).map (fun (zr : Int) => (XE.exit 2, frm [(1, .ptr 0 0 0), (3, .i .i64 zr)], [some (Ent.box [.i .i64 (⟨vhxNo, vhxFinds, vhxSecrets, vhxSlots, vhxClaims, vhxTrials, vhxChain, vhxBook, vhxNow⟩ : House).No, .imm 8 ((⟨vhxNo, vhxFinds, vhxSecrets, vhxSlots, vhxClaims, vhxTrials, vhxChain, vhxBook, vhxNow⟩ : House).Finds.map cFind), .imm 3 ((⟨vhxNo, vhxFinds, vhxSecrets, vhxSlots, vhxClaims, vhxTrials, vhxChain, vhxBook, vhxNow⟩ : House).Secrets.map cSecret), .imm 3 ((⟨vhxNo, vhxFinds, vhxSecrets, vhxSlots, vhxClaims, vhxTrials, vhxChain, vhxBook, vhxNow⟩ : House).Slots.map cSlot), .imm 5 ((⟨vhxNo, vhxFinds, vhxSecrets, vhxSlots, vhxClaims, vhxTrials, vhxChain, vhxBook, vhxNow⟩ : House).Claims.map cClaim), .imm 4 ((⟨vhxNo, vhxFinds, vhxSecrets, vhxSlots, vhxClaims, vhxTrials, vhxChain, vhxBook, vhxNow⟩ : House).Trials.map cTrial), .imm 5 ((⟨vhxNo, vhxFinds, vhxSecrets, vhxSlots, vhxClaims, vhxTrials, vhxChain, vhxBook, vhxNow⟩ : House).Chain.map cHand), .imm 4 ((⟨vhxNo, vhxFinds, vhxSecrets, vhxSlots, vhxClaims, vhxTrials, vhxChain, vhxBook, vhxNow⟩ : House).Book.map cEntry), .i .i64 (⟨vhxNo, vhxFinds, vhxSecrets, vhxSlots, vhxClaims, vhxTrials, vhxChain, vhxBook, vhxNow⟩ : House).Now])])) := by
  obtain ⟨rfl⟩ := H1
  obtain ⟨rfl⟩ := H2
  obtain ⟨rfl⟩ := H3
  obtain ⟨rfl⟩ := H4
  obtain ⟨rfl⟩ := H5
  obtain ⟨rfl⟩ := H6
  obtain ⟨rfl⟩ := H7
  obtain ⟨rfl⟩ := H8
  rw [LP_eq]
  simp -dsimp only [↓evA, evB, lpG_eq, Tryz.func164, Tryz.f164, a164, TP, TZ, Nat.reduceAdd, Nat.reduceMul, Nat.reduceBEq, Nat.reduceLeDiff, Nat.reduceLT]
  refine run_map (fun (zs : Int × Int) => (frm [(1, .ptr 0 0 0), (3, .i .i64 zs.1), (25, .imm 5 (t25.map cClaim)), (26, .i .i64 t26), (27, .i .i64 zs.2)], [some (Ent.box [.i .i64 (⟨vhxNo, vhxFinds, vhxSecrets, vhxSlots, vhxClaims, vhxTrials, vhxChain, vhxBook, vhxNow⟩ : House).No, .imm 8 ((⟨vhxNo, vhxFinds, vhxSecrets, vhxSlots, vhxClaims, vhxTrials, vhxChain, vhxBook, vhxNow⟩ : House).Finds.map cFind), .imm 3 ((⟨vhxNo, vhxFinds, vhxSecrets, vhxSlots, vhxClaims, vhxTrials, vhxChain, vhxBook, vhxNow⟩ : House).Secrets.map cSecret), .imm 3 ((⟨vhxNo, vhxFinds, vhxSecrets, vhxSlots, vhxClaims, vhxTrials, vhxChain, vhxBook, vhxNow⟩ : House).Slots.map cSlot), .imm 5 ((⟨vhxNo, vhxFinds, vhxSecrets, vhxSlots, vhxClaims, vhxTrials, vhxChain, vhxBook, vhxNow⟩ : House).Claims.map cClaim), .imm 4 ((⟨vhxNo, vhxFinds, vhxSecrets, vhxSlots, vhxClaims, vhxTrials, vhxChain, vhxBook, vhxNow⟩ : House).Trials.map cTrial), .imm 5 ((⟨vhxNo, vhxFinds, vhxSecrets, vhxSlots, vhxClaims, vhxTrials, vhxChain, vhxBook, vhxNow⟩ : House).Chain.map cHand), .imm 4 ((⟨vhxNo, vhxFinds, vhxSecrets, vhxSlots, vhxClaims, vhxTrials, vhxChain, vhxBook, vhxNow⟩ : House).Book.map cEntry), .i .i64 (⟨vhxNo, vhxFinds, vhxSecrets, vhxSlots, vhxClaims, vhxTrials, vhxChain, vhxBook, vhxNow⟩ : House).Now])])) (fun (zr : Int) => (XE.exit 2, frm [(1, .ptr 0 0 0), (3, .i .i64 zr)], [some (Ent.box [.i .i64 (⟨vhxNo, vhxFinds, vhxSecrets, vhxSlots, vhxClaims, vhxTrials, vhxChain, vhxBook, vhxNow⟩ : House).No, .imm 8 ((⟨vhxNo, vhxFinds, vhxSecrets, vhxSlots, vhxClaims, vhxTrials, vhxChain, vhxBook, vhxNow⟩ : House).Finds.map cFind), .imm 3 ((⟨vhxNo, vhxFinds, vhxSecrets, vhxSlots, vhxClaims, vhxTrials, vhxChain, vhxBook, vhxNow⟩ : House).Secrets.map cSecret), .imm 3 ((⟨vhxNo, vhxFinds, vhxSecrets, vhxSlots, vhxClaims, vhxTrials, vhxChain, vhxBook, vhxNow⟩ : House).Slots.map cSlot), .imm 5 ((⟨vhxNo, vhxFinds, vhxSecrets, vhxSlots, vhxClaims, vhxTrials, vhxChain, vhxBook, vhxNow⟩ : House).Claims.map cClaim), .imm 4 ((⟨vhxNo, vhxFinds, vhxSecrets, vhxSlots, vhxClaims, vhxTrials, vhxChain, vhxBook, vhxNow⟩ : House).Trials.map cTrial), .imm 5 ((⟨vhxNo, vhxFinds, vhxSecrets, vhxSlots, vhxClaims, vhxTrials, vhxChain, vhxBook, vhxNow⟩ : House).Chain.map cHand), .imm 4 ((⟨vhxNo, vhxFinds, vhxSecrets, vhxSlots, vhxClaims, vhxTrials, vhxChain, vhxBook, vhxNow⟩ : House).Book.map cEntry), .i .i64 (⟨vhxNo, vhxFinds, vhxSecrets, vhxSlots, vhxClaims, vhxTrials, vhxChain, vhxBook, vhxNow⟩ : House).Now])])) ?_ (vat, t27)
  rintro ⟨vat, t27⟩
  simp -dsimp +contextual only [↓evA, evB, evT, tys, encs, Nat.reduceAdd, Nat.reduceMul, Nat.reduceBEq, Nat.reduceLeDiff, Nat.reduceLT, TP, TZ, orc_p, orc_l, orc_a, orc_m]
  try simp only [impl_latest_l8, evT, encs, c_js, r_map_some, e_need_t]
  all_goals rfl
theorem e_impl_latest_l13 (n : Nat) (vhxNo : Int) {R1} {vhxFinds : List Find} {R2} {vhxSecrets : List Secret} {R3} {vhxSlots : List Slot} {R4} {vhxClaims : List Claim} {R5} {vhxTrials : List Trial} {R6} {vhxChain : List Hand} {R7} {vhxBook : List Entry} (vhxNow : Int) (vat : Int) {R8} {t37 : List Hand} (t38 : Int) (t39 : Int) [H1 : EncL cFind R1 vhxFinds] [H2 : EncL cSecret R2 vhxSecrets] [H3 : EncL cSlot R3 vhxSlots] [H4 : EncL cClaim R4 vhxClaims] [H5 : EncL cTrial R5 vhxTrials] [H6 : EncL cHand R6 vhxChain] [H7 : EncL cEntry R7 vhxBook] [H8 : EncL cHand R8 t37] : LP T (n + 1) 164 13 (frm [(1, .ptr 0 0 0), (3, .i .i64 vat), (37, .imm 5 R8), (38, .i .i64 t38), (39, .i .i64 t39)]) [some (Ent.box [.i .i64 vhxNo, .imm 8 R1, .imm 3 R2, .imm 3 R3, .imm 5 R4, .imm 4 R5, .imm 5 R6, .imm 4 R7, .i .i64 vhxNow])] =
    (run (impl_latest_l13 (⟨vhxNo, vhxFinds, vhxSecrets, vhxSlots, vhxClaims, vhxTrials, vhxChain, vhxBook, vhxNow⟩ : House) t37 t38) (vat, t39)).map (fun (zr : Int) => (XE.exit 4, frm [(1, .ptr 0 0 0), (3, .i .i64 zr)], [some (Ent.box [.i .i64 (⟨vhxNo, vhxFinds, vhxSecrets, vhxSlots, vhxClaims, vhxTrials, vhxChain, vhxBook, vhxNow⟩ : House).No, .imm 8 ((⟨vhxNo, vhxFinds, vhxSecrets, vhxSlots, vhxClaims, vhxTrials, vhxChain, vhxBook, vhxNow⟩ : House).Finds.map cFind), .imm 3 ((⟨vhxNo, vhxFinds, vhxSecrets, vhxSlots, vhxClaims, vhxTrials, vhxChain, vhxBook, vhxNow⟩ : House).Secrets.map cSecret), .imm 3 ((⟨vhxNo, vhxFinds, vhxSecrets, vhxSlots, vhxClaims, vhxTrials, vhxChain, vhxBook, vhxNow⟩ : House).Slots.map cSlot), .imm 5 ((⟨vhxNo, vhxFinds, vhxSecrets, vhxSlots, vhxClaims, vhxTrials, vhxChain, vhxBook, vhxNow⟩ : House).Claims.map cClaim), .imm 4 ((⟨vhxNo, vhxFinds, vhxSecrets, vhxSlots, vhxClaims, vhxTrials, vhxChain, vhxBook, vhxNow⟩ : House).Trials.map cTrial), .imm 5 ((⟨vhxNo, vhxFinds, vhxSecrets, vhxSlots, vhxClaims, vhxTrials, vhxChain, vhxBook, vhxNow⟩ : House).Chain.map cHand), .imm 4 ((⟨vhxNo, vhxFinds, vhxSecrets, vhxSlots, vhxClaims, vhxTrials, vhxChain, vhxBook, vhxNow⟩ : House).Book.map cEntry), .i .i64 (⟨vhxNo, vhxFinds, vhxSecrets, vhxSlots, vhxClaims, vhxTrials, vhxChain, vhxBook, vhxNow⟩ : House).Now])])) := by
  obtain ⟨rfl⟩ := H1
  obtain ⟨rfl⟩ := H2
  obtain ⟨rfl⟩ := H3
  obtain ⟨rfl⟩ := H4
  obtain ⟨rfl⟩ := H5
  obtain ⟨rfl⟩ := H6
  obtain ⟨rfl⟩ := H7
  obtain ⟨rfl⟩ := H8
  rw [LP_eq]
  simp -dsimp only [↓evA, evB, lpG_eq, Tryz.func164, Tryz.f164, a164, TP, TZ, Nat.reduceAdd, Nat.reduceMul, Nat.reduceBEq, Nat.reduceLeDiff, Nat.reduceLT]
  refine run_map (fun (zs : Int × Int) => (frm [(1, .ptr 0 0 0), (3, .i .i64 zs.1), (37, .imm 5 (t37.map cHand)), (38, .i .i64 t38), (39, .i .i64 zs.2)], [some (Ent.box [.i .i64 (⟨vhxNo, vhxFinds, vhxSecrets, vhxSlots, vhxClaims, vhxTrials, vhxChain, vhxBook, vhxNow⟩ : House).No, .imm 8 ((⟨vhxNo, vhxFinds, vhxSecrets, vhxSlots, vhxClaims, vhxTrials, vhxChain, vhxBook, vhxNow⟩ : House).Finds.map cFind), .imm 3 ((⟨vhxNo, vhxFinds, vhxSecrets, vhxSlots, vhxClaims, vhxTrials, vhxChain, vhxBook, vhxNow⟩ : House).Secrets.map cSecret), .imm 3 ((⟨vhxNo, vhxFinds, vhxSecrets, vhxSlots, vhxClaims, vhxTrials, vhxChain, vhxBook, vhxNow⟩ : House).Slots.map cSlot), .imm 5 ((⟨vhxNo, vhxFinds, vhxSecrets, vhxSlots, vhxClaims, vhxTrials, vhxChain, vhxBook, vhxNow⟩ : House).Claims.map cClaim), .imm 4 ((⟨vhxNo, vhxFinds, vhxSecrets, vhxSlots, vhxClaims, vhxTrials, vhxChain, vhxBook, vhxNow⟩ : House).Trials.map cTrial), .imm 5 ((⟨vhxNo, vhxFinds, vhxSecrets, vhxSlots, vhxClaims, vhxTrials, vhxChain, vhxBook, vhxNow⟩ : House).Chain.map cHand), .imm 4 ((⟨vhxNo, vhxFinds, vhxSecrets, vhxSlots, vhxClaims, vhxTrials, vhxChain, vhxBook, vhxNow⟩ : House).Book.map cEntry), .i .i64 (⟨vhxNo, vhxFinds, vhxSecrets, vhxSlots, vhxClaims, vhxTrials, vhxChain, vhxBook, vhxNow⟩ : House).Now])])) (fun (zr : Int) => (XE.exit 4, frm [(1, .ptr 0 0 0), (3, .i .i64 zr)], [some (Ent.box [.i .i64 (⟨vhxNo, vhxFinds, vhxSecrets, vhxSlots, vhxClaims, vhxTrials, vhxChain, vhxBook, vhxNow⟩ : House).No, .imm 8 ((⟨vhxNo, vhxFinds, vhxSecrets, vhxSlots, vhxClaims, vhxTrials, vhxChain, vhxBook, vhxNow⟩ : House).Finds.map cFind), .imm 3 ((⟨vhxNo, vhxFinds, vhxSecrets, vhxSlots, vhxClaims, vhxTrials, vhxChain, vhxBook, vhxNow⟩ : House).Secrets.map cSecret), .imm 3 ((⟨vhxNo, vhxFinds, vhxSecrets, vhxSlots, vhxClaims, vhxTrials, vhxChain, vhxBook, vhxNow⟩ : House).Slots.map cSlot), .imm 5 ((⟨vhxNo, vhxFinds, vhxSecrets, vhxSlots, vhxClaims, vhxTrials, vhxChain, vhxBook, vhxNow⟩ : House).Claims.map cClaim), .imm 4 ((⟨vhxNo, vhxFinds, vhxSecrets, vhxSlots, vhxClaims, vhxTrials, vhxChain, vhxBook, vhxNow⟩ : House).Trials.map cTrial), .imm 5 ((⟨vhxNo, vhxFinds, vhxSecrets, vhxSlots, vhxClaims, vhxTrials, vhxChain, vhxBook, vhxNow⟩ : House).Chain.map cHand), .imm 4 ((⟨vhxNo, vhxFinds, vhxSecrets, vhxSlots, vhxClaims, vhxTrials, vhxChain, vhxBook, vhxNow⟩ : House).Book.map cEntry), .i .i64 (⟨vhxNo, vhxFinds, vhxSecrets, vhxSlots, vhxClaims, vhxTrials, vhxChain, vhxBook, vhxNow⟩ : House).Now])])) ?_ (vat, t39)
  rintro ⟨vat, t39⟩
  simp -dsimp +contextual only [↓evA, evB, evT, tys, encs, Nat.reduceAdd, Nat.reduceMul, Nat.reduceBEq, Nat.reduceLeDiff, Nat.reduceLT, TP, TZ, orc_p, orc_l, orc_a, orc_m]
  try simp only [impl_latest_l13, evT, encs, c_js, r_map_some, e_need_t]
  all_goals rfl
theorem e_impl_latest_l18 (n : Nat) (vat : Int) {R1} {t49 : List Entry} (t50 : Int) (t51 : Int) [H1 : EncL cEntry R1 t49] : LP T (n + 1) 164 18 (frm [(3, .i .i64 vat), (49, .imm 4 R1), (50, .i .i64 t50), (51, .i .i64 t51)]) [] =
    (run (impl_latest_l18 t49 t50) (vat, t51)).map (fun (zr : Int) => (XE.exit 6, frm [(3, .i .i64 zr)], [])) := by
  obtain ⟨rfl⟩ := H1
  rw [LP_eq]
  simp -dsimp only [↓evA, evB, lpG_eq, Tryz.func164, Tryz.f164, a164, TP, TZ, Nat.reduceAdd, Nat.reduceMul, Nat.reduceBEq, Nat.reduceLeDiff, Nat.reduceLT]
  refine run_map (fun (zs : Int × Int) => (frm [(3, .i .i64 zs.1), (49, .imm 4 (t49.map cEntry)), (50, .i .i64 t50), (51, .i .i64 zs.2)], [])) (fun (zr : Int) => (XE.exit 6, frm [(3, .i .i64 zr)], [])) ?_ (vat, t51)
  rintro ⟨vat, t51⟩
  simp -dsimp +contextual only [↓evA, evB, evT, tys, encs, Nat.reduceAdd, Nat.reduceMul, Nat.reduceBEq, Nat.reduceLeDiff, Nat.reduceLT, TP, TZ, orc_p, orc_l, orc_a, orc_m]
  try simp only [impl_latest_l18, evT, encs, c_js, r_map_some, e_need_t]
  all_goals rfl
theorem e_impl_latest (n : Nat) (vhxNo : Int) {R1} {vhxFinds : List Find} {R2} {vhxSecrets : List Secret} {R3} {vhxSlots : List Slot} {R4} {vhxClaims : List Claim} {R5} {vhxTrials : List Trial} {R6} {vhxChain : List Hand} {R7} {vhxBook : List Entry} (vhxNow : Int) [H1 : EncL cFind R1 vhxFinds] [H2 : EncL cSecret R2 vhxSecrets] [H3 : EncL cSlot R3 vhxSlots] [H4 : EncL cClaim R4 vhxClaims] [H5 : EncL cTrial R5 vhxTrials] [H6 : EncL cHand R6 vhxChain] [H7 : EncL cEntry R7 vhxBook] : CP T (n + 2) 164 [.agg [.i .i64 vhxNo, .imm 8 R1, .imm 3 R2, .imm 3 R3, .imm 5 R4, .imm 4 R5, .imm 5 R6, .imm 4 R7, .i .i64 vhxNow]] = (impl_latest (⟨vhxNo, vhxFinds, vhxSecrets, vhxSlots, vhxClaims, vhxTrials, vhxChain, vhxBook, vhxNow⟩ : House)).map fun r => .i .i64 r := by
  obtain ⟨rfl⟩ := H1
  obtain ⟨rfl⟩ := H2
  obtain ⟨rfl⟩ := H3
  obtain ⟨rfl⟩ := H4
  obtain ⟨rfl⟩ := H5
  obtain ⟨rfl⟩ := H6
  obtain ⟨rfl⟩ := H7
  rw [CP_eq]
  simp -dsimp +contextual only [↓evA, evB, evT, tys, encs, Nat.reduceAdd, Nat.reduceMul, Nat.reduceBEq, Nat.reduceLeDiff, Nat.reduceLT, Tryz.func164, Tryz.f164, a164, TP, TZ, orc_p, orc_l, orc_a, orc_m, e_impl_latest_l3, e_impl_latest_l8, e_impl_latest_l13, e_impl_latest_l18]
  try simp only [impl_latest, evT, encs, c_js, r_map_some, e_need_t]
  all_goals rfl
theorem e_impl_IsHouse (n : Nat) (vhxNo : Int) {R1} {vhxFinds : List Find} {R2} {vhxSecrets : List Secret} {R3} {vhxSlots : List Slot} {R4} {vhxClaims : List Claim} {R5} {vhxTrials : List Trial} {R6} {vhxChain : List Hand} {R7} {vhxBook : List Entry} (vhxNow : Int) [H1 : EncL cFind R1 vhxFinds] [H2 : EncL cSecret R2 vhxSecrets] [H3 : EncL cSlot R3 vhxSlots] [H4 : EncL cClaim R4 vhxClaims] [H5 : EncL cTrial R5 vhxTrials] [H6 : EncL cHand R6 vhxChain] [H7 : EncL cEntry R7 vhxBook] : CP T (n + 11) 64 [.agg [.i .i64 vhxNo, .imm 8 R1, .imm 3 R2, .imm 3 R3, .imm 5 R4, .imm 4 R5, .imm 5 R6, .imm 4 R7, .i .i64 vhxNow]] = (impl_IsHouse (⟨vhxNo, vhxFinds, vhxSecrets, vhxSlots, vhxClaims, vhxTrials, vhxChain, vhxBook, vhxNow⟩ : House)).map fun r => .b r := by
  obtain ⟨rfl⟩ := H1
  obtain ⟨rfl⟩ := H2
  obtain ⟨rfl⟩ := H3
  obtain ⟨rfl⟩ := H4
  obtain ⟨rfl⟩ := H5
  obtain ⟨rfl⟩ := H6
  obtain ⟨rfl⟩ := H7
  rw [CP_eq]
  simp -dsimp +contextual only [↓evA, evB, evT, tys, encs, Nat.reduceAdd, Nat.reduceMul, Nat.reduceBEq, Nat.reduceLeDiff, Nat.reduceLT, Tryz.func64, Tryz.f64, a64, TP, TZ, orc_p, orc_l, orc_a, orc_m, e_impl_InRange, e_impl_AreFinds, e_impl_AreSecrets, e_impl_AreSlots, e_impl_AreClaims, e_impl_IsChain, e_impl_AreEntries, e_impl_areKept, e_impl_areTrials, e_impl_latest]
  try simp only [impl_IsHouse, evT, encs, c_js, r_map_some, e_need_t]
  all_goals rfl
theorem e_impl_NewHouse (n : Nat) (no : Int) {R1} {slots : List Slot} [H1 : EncL cSlot R1 slots] : CP T (n + 12) 16 [.i .i64 no, .imm 3 R1] = (impl_NewHouse no slots).map fun r => .tup [.agg (cHouseO r.1), .b r.2] := by
  obtain ⟨rfl⟩ := H1
  rw [CP_eq]
  simp -dsimp +contextual only [↓evA, evB, evT, tys, encs, Nat.reduceAdd, Nat.reduceMul, Nat.reduceBEq, Nat.reduceLeDiff, Nat.reduceLT, Tryz.func16, Tryz.f16, a16, TP, TZ, orc_p, orc_l, orc_a, orc_m, e_slices_Clone_Slot, e_impl_IsHouse]
  try simp only [impl_NewHouse, evT, encs, c_js, r_map_some, e_need_t]
  all_goals rfl
theorem e_laws_eqThing (n : Nat) (axId : Int) (axKind : Int) (axColour : Int) (axSize : Int) (axWorth : Int) (bxId : Int) (bxKind : Int) (bxColour : Int) (bxSize : Int) (bxWorth : Int) : CP T (n + 1) 228 [.agg [.i .i64 axId, .i .i64 axKind, .i .i64 axColour, .i .i64 axSize, .i .i64 axWorth], .agg [.i .i64 bxId, .i .i64 bxKind, .i .i64 bxColour, .i .i64 bxSize, .i .i64 bxWorth]] = (laws_eqThing (⟨axId, axKind, axColour, axSize, axWorth⟩ : Thing) (⟨bxId, bxKind, bxColour, bxSize, bxWorth⟩ : Thing)).map fun r => .b r := by
  rw [CP_eq]
  simp -dsimp +contextual only [↓evA, evB, evT, tys, encs, Nat.reduceAdd, Nat.reduceMul, Nat.reduceBEq, Nat.reduceLeDiff, Nat.reduceLT, Tryz.func228, Tryz.f228, a228, TP, TZ, orc_p, orc_l, orc_a, orc_m]
  try simp only [laws_eqThing, evT, encs, c_js, r_map_some, e_need_t]
  all_goals rfl
theorem e_laws_eqFind (n : Nat) (axThingxId : Int) (axThingxKind : Int) (axThingxColour : Int) (axThingxSize : Int) (axThingxWorth : Int) (axPlace : Int) (axAt : Int) (axFinder : Int) (bxThingxId : Int) (bxThingxKind : Int) (bxThingxColour : Int) (bxThingxSize : Int) (bxThingxWorth : Int) (bxPlace : Int) (bxAt : Int) (bxFinder : Int) : CP T (n + 2) 146 [.agg [.i .i64 axThingxId, .i .i64 axThingxKind, .i .i64 axThingxColour, .i .i64 axThingxSize, .i .i64 axThingxWorth, .i .i64 axPlace, .i .i64 axAt, .i .i64 axFinder], .agg [.i .i64 bxThingxId, .i .i64 bxThingxKind, .i .i64 bxThingxColour, .i .i64 bxThingxSize, .i .i64 bxThingxWorth, .i .i64 bxPlace, .i .i64 bxAt, .i .i64 bxFinder]] = (laws_eqFind (⟨⟨axThingxId, axThingxKind, axThingxColour, axThingxSize, axThingxWorth⟩, axPlace, axAt, axFinder⟩ : Find) (⟨⟨bxThingxId, bxThingxKind, bxThingxColour, bxThingxSize, bxThingxWorth⟩, bxPlace, bxAt, bxFinder⟩ : Find)).map fun r => .b r := by
  rw [CP_eq]
  simp -dsimp +contextual only [↓evA, evB, evT, tys, encs, Nat.reduceAdd, Nat.reduceMul, Nat.reduceBEq, Nat.reduceLeDiff, Nat.reduceLT, Tryz.func146, Tryz.f146, a146, TP, TZ, orc_p, orc_l, orc_a, orc_m, e_laws_eqThing]
  try simp only [laws_eqFind, evT, encs, c_js, r_map_some, e_need_t]
  all_goals rfl
theorem e_laws_eqFindS_l4 (n : Nat) {R1} {a : List Find} {R2} {b : List Find} (i : Int) [H1 : EncL cFind R1 a] [H2 : EncL cFind R2 b] : LP T (n + 3) 65 4 (frm [(0, .imm 8 R1), (1, .imm 8 R2), (5, .i .i64 i)]) [] =
    lmap (run (laws_eqFindS_l4 a b) i) (fun (zr : Bool) => (XE.ret, frm [(4, .b zr)], [])) (fun (zr : Unit) => (XE.exit 0, frm [], [])) := by
  obtain ⟨rfl⟩ := H1
  obtain ⟨rfl⟩ := H2
  rw [LP_eq]
  simp -dsimp only [↓evA, evB, lpG_eq, Tryz.func65, Tryz.f65, a65, TP, TZ, Nat.reduceAdd, Nat.reduceMul, Nat.reduceBEq, Nat.reduceLeDiff, Nat.reduceLT]
  refine run_map (fun (zs : Int) => (frm [(0, .imm 8 (a.map cFind)), (1, .imm 8 (b.map cFind)), (5, .i .i64 zs)], [])) (evO (fun (zr : Bool) => (XE.ret, frm [(4, .b zr)], [])) (fun (zr : Unit) => (XE.exit 0, frm [], []))) ?_ i
  intro i
  simp -dsimp +contextual only [↓evA, evB, evT, tys, encs, Nat.reduceAdd, Nat.reduceMul, Nat.reduceBEq, Nat.reduceLeDiff, Nat.reduceLT, TP, TZ, orc_p, orc_l, orc_a, orc_m, e_laws_eqFind]
  try simp only [laws_eqFindS_l4, evT, encs, c_js, r_map_some, e_need_t]
  all_goals rfl
theorem e_laws_eqFindS (n : Nat) {R1} {a : List Find} {R2} {b : List Find} [H1 : EncL cFind R1 a] [H2 : EncL cFind R2 b] : CP T (n + 4) 65 [.imm 8 R1, .imm 8 R2] = (laws_eqFindS a b).map fun r => .b r := by
  obtain ⟨rfl⟩ := H1
  obtain ⟨rfl⟩ := H2
  rw [CP_eq]
  simp -dsimp +contextual only [↓evA, evB, evT, tys, encs, Nat.reduceAdd, Nat.reduceMul, Nat.reduceBEq, Nat.reduceLeDiff, Nat.reduceLT, Tryz.func65, Tryz.f65, a65, TP, TZ, orc_p, orc_l, orc_a, orc_m, e_laws_eqFindS_l4]
  try simp only [laws_eqFindS, evT, encs, c_js, r_map_some, e_need_t]
  all_goals rfl
theorem e_laws_eqMark (n : Nat) (axQuestion : Int) (axAnswer : Int) (bxQuestion : Int) (bxAnswer : Int) : CP T (n + 1) 139 [.agg [.i .i64 axQuestion, .i .i64 axAnswer], .agg [.i .i64 bxQuestion, .i .i64 bxAnswer]] = (laws_eqMark (⟨axQuestion, axAnswer⟩ : Mark) (⟨bxQuestion, bxAnswer⟩ : Mark)).map fun r => .b r := by
  rw [CP_eq]
  simp -dsimp +contextual only [↓evA, evB, evT, tys, encs, Nat.reduceAdd, Nat.reduceMul, Nat.reduceBEq, Nat.reduceLeDiff, Nat.reduceLT, Tryz.func139, Tryz.f139, a139, TP, TZ, orc_p, orc_l, orc_a, orc_m]
  try simp only [laws_eqMark, evT, encs, c_js, r_map_some, e_need_t]
  all_goals rfl
theorem e_laws_eqMarkS_l4 (n : Nat) {R1} {a : List Mark} {R2} {b : List Mark} (i : Int) [H1 : EncL cMark R1 a] [H2 : EncL cMark R2 b] : LP T (n + 2) 39 4 (frm [(0, .imm 2 R1), (1, .imm 2 R2), (5, .i .i64 i)]) [] =
    lmap (run (laws_eqMarkS_l4 a b) i) (fun (zr : Bool) => (XE.ret, frm [(4, .b zr)], [])) (fun (zr : Unit) => (XE.exit 0, frm [], [])) := by
  obtain ⟨rfl⟩ := H1
  obtain ⟨rfl⟩ := H2
  rw [LP_eq]
  simp -dsimp only [↓evA, evB, lpG_eq, Tryz.func39, Tryz.f39, a39, TP, TZ, Nat.reduceAdd, Nat.reduceMul, Nat.reduceBEq, Nat.reduceLeDiff, Nat.reduceLT]
  refine run_map (fun (zs : Int) => (frm [(0, .imm 2 (a.map cMark)), (1, .imm 2 (b.map cMark)), (5, .i .i64 zs)], [])) (evO (fun (zr : Bool) => (XE.ret, frm [(4, .b zr)], [])) (fun (zr : Unit) => (XE.exit 0, frm [], []))) ?_ i
  intro i
  simp -dsimp +contextual only [↓evA, evB, evT, tys, encs, Nat.reduceAdd, Nat.reduceMul, Nat.reduceBEq, Nat.reduceLeDiff, Nat.reduceLT, TP, TZ, orc_p, orc_l, orc_a, orc_m, e_laws_eqMark]
  try simp only [laws_eqMarkS_l4, evT, encs, c_js, r_map_some, e_need_t]
  all_goals rfl
theorem e_laws_eqMarkS (n : Nat) {R1} {a : List Mark} {R2} {b : List Mark} [H1 : EncL cMark R1 a] [H2 : EncL cMark R2 b] : CP T (n + 3) 39 [.imm 2 R1, .imm 2 R2] = (laws_eqMarkS a b).map fun r => .b r := by
  obtain ⟨rfl⟩ := H1
  obtain ⟨rfl⟩ := H2
  rw [CP_eq]
  simp -dsimp +contextual only [↓evA, evB, evT, tys, encs, Nat.reduceAdd, Nat.reduceMul, Nat.reduceBEq, Nat.reduceLeDiff, Nat.reduceLT, Tryz.func39, Tryz.f39, a39, TP, TZ, orc_p, orc_l, orc_a, orc_m, e_laws_eqMarkS_l4]
  try simp only [laws_eqMarkS, evT, encs, c_js, r_map_some, e_need_t]
  all_goals rfl
theorem e_laws_eqSecret (n : Nat) (axThing : Int) {R1} {axMarks : List Mark} (axSalt : Int) (bxThing : Int) {R2} {bxMarks : List Mark} (bxSalt : Int) [H1 : EncL cMark R1 axMarks] [H2 : EncL cMark R2 bxMarks] : CP T (n + 4) 165 [.agg [.i .i64 axThing, .imm 2 R1, .i .i64 axSalt], .agg [.i .i64 bxThing, .imm 2 R2, .i .i64 bxSalt]] = (laws_eqSecret (⟨axThing, axMarks, axSalt⟩ : Secret) (⟨bxThing, bxMarks, bxSalt⟩ : Secret)).map fun r => .b r := by
  obtain ⟨rfl⟩ := H1
  obtain ⟨rfl⟩ := H2
  rw [CP_eq]
  simp -dsimp +contextual only [↓evA, evB, evT, tys, encs, Nat.reduceAdd, Nat.reduceMul, Nat.reduceBEq, Nat.reduceLeDiff, Nat.reduceLT, Tryz.func165, Tryz.f165, a165, TP, TZ, orc_p, orc_l, orc_a, orc_m, e_laws_eqMarkS]
  try simp only [laws_eqSecret, evT, encs, c_js, r_map_some, e_need_t]
  all_goals rfl
theorem e_laws_eqSecretS_l4 (n : Nat) {R1} {a : List Secret} {R2} {b : List Secret} (i : Int) [H1 : EncL cSecret R1 a] [H2 : EncL cSecret R2 b] : LP T (n + 5) 66 4 (frm [(0, .imm 3 R1), (1, .imm 3 R2), (5, .i .i64 i)]) [] =
    lmap (run (laws_eqSecretS_l4 a b) i) (fun (zr : Bool) => (XE.ret, frm [(4, .b zr)], [])) (fun (zr : Unit) => (XE.exit 0, frm [], [])) := by
  obtain ⟨rfl⟩ := H1
  obtain ⟨rfl⟩ := H2
  rw [LP_eq]
  simp -dsimp only [↓evA, evB, lpG_eq, Tryz.func66, Tryz.f66, a66, TP, TZ, Nat.reduceAdd, Nat.reduceMul, Nat.reduceBEq, Nat.reduceLeDiff, Nat.reduceLT]
  refine run_map (fun (zs : Int) => (frm [(0, .imm 3 (a.map cSecret)), (1, .imm 3 (b.map cSecret)), (5, .i .i64 zs)], [])) (evO (fun (zr : Bool) => (XE.ret, frm [(4, .b zr)], [])) (fun (zr : Unit) => (XE.exit 0, frm [], []))) ?_ i
  intro i
  simp -dsimp +contextual only [↓evA, evB, evT, tys, encs, Nat.reduceAdd, Nat.reduceMul, Nat.reduceBEq, Nat.reduceLeDiff, Nat.reduceLT, TP, TZ, orc_p, orc_l, orc_a, orc_m, e_laws_eqSecret]
  try simp only [laws_eqSecretS_l4, evT, encs, c_js, r_map_some, e_need_t]
  all_goals rfl
theorem e_laws_eqSecretS (n : Nat) {R1} {a : List Secret} {R2} {b : List Secret} [H1 : EncL cSecret R1 a] [H2 : EncL cSecret R2 b] : CP T (n + 6) 66 [.imm 3 R1, .imm 3 R2] = (laws_eqSecretS a b).map fun r => .b r := by
  obtain ⟨rfl⟩ := H1
  obtain ⟨rfl⟩ := H2
  rw [CP_eq]
  simp -dsimp +contextual only [↓evA, evB, evT, tys, encs, Nat.reduceAdd, Nat.reduceMul, Nat.reduceBEq, Nat.reduceLeDiff, Nat.reduceLT, Tryz.func66, Tryz.f66, a66, TP, TZ, orc_p, orc_l, orc_a, orc_m, e_laws_eqSecretS_l4]
  try simp only [laws_eqSecretS, evT, encs, c_js, r_map_some, e_need_t]
  all_goals rfl
theorem e_laws_eqSlot (n : Nat) (axId : Int) (axSize : Int) (axThing : Int) (bxId : Int) (bxSize : Int) (bxThing : Int) : CP T (n + 1) 71 [.agg [.i .i64 axId, .i .i64 axSize, .i .i64 axThing], .agg [.i .i64 bxId, .i .i64 bxSize, .i .i64 bxThing]] = (laws_eqSlot (⟨axId, axSize, axThing⟩ : Slot) (⟨bxId, bxSize, bxThing⟩ : Slot)).map fun r => .b r := by
  rw [CP_eq]
  simp -dsimp +contextual only [↓evA, evB, evT, tys, encs, Nat.reduceAdd, Nat.reduceMul, Nat.reduceBEq, Nat.reduceLeDiff, Nat.reduceLT, Tryz.func71, Tryz.f71, a71, TP, TZ, orc_p, orc_l, orc_a, orc_m]
  try simp only [laws_eqSlot, evT, encs, c_js, r_map_some, e_need_t]
  all_goals rfl
theorem e_laws_eqSlotS_l4 (n : Nat) {R1} {a : List Slot} {R2} {b : List Slot} (i : Int) [H1 : EncL cSlot R1 a] [H2 : EncL cSlot R2 b] : LP T (n + 2) 18 4 (frm [(0, .imm 3 R1), (1, .imm 3 R2), (5, .i .i64 i)]) [] =
    lmap (run (laws_eqSlotS_l4 a b) i) (fun (zr : Bool) => (XE.ret, frm [(4, .b zr)], [])) (fun (zr : Unit) => (XE.exit 0, frm [], [])) := by
  obtain ⟨rfl⟩ := H1
  obtain ⟨rfl⟩ := H2
  rw [LP_eq]
  simp -dsimp only [↓evA, evB, lpG_eq, Tryz.func18, Tryz.f18, a18, TP, TZ, Nat.reduceAdd, Nat.reduceMul, Nat.reduceBEq, Nat.reduceLeDiff, Nat.reduceLT]
  refine run_map (fun (zs : Int) => (frm [(0, .imm 3 (a.map cSlot)), (1, .imm 3 (b.map cSlot)), (5, .i .i64 zs)], [])) (evO (fun (zr : Bool) => (XE.ret, frm [(4, .b zr)], [])) (fun (zr : Unit) => (XE.exit 0, frm [], []))) ?_ i
  intro i
  simp -dsimp +contextual only [↓evA, evB, evT, tys, encs, Nat.reduceAdd, Nat.reduceMul, Nat.reduceBEq, Nat.reduceLeDiff, Nat.reduceLT, TP, TZ, orc_p, orc_l, orc_a, orc_m, e_laws_eqSlot]
  try simp only [laws_eqSlotS_l4, evT, encs, c_js, r_map_some, e_need_t]
  all_goals rfl
theorem e_laws_eqSlotS (n : Nat) {R1} {a : List Slot} {R2} {b : List Slot} [H1 : EncL cSlot R1 a] [H2 : EncL cSlot R2 b] : CP T (n + 3) 18 [.imm 3 R1, .imm 3 R2] = (laws_eqSlotS a b).map fun r => .b r := by
  obtain ⟨rfl⟩ := H1
  obtain ⟨rfl⟩ := H2
  rw [CP_eq]
  simp -dsimp +contextual only [↓evA, evB, evT, tys, encs, Nat.reduceAdd, Nat.reduceMul, Nat.reduceBEq, Nat.reduceLeDiff, Nat.reduceLT, Tryz.func18, Tryz.f18, a18, TP, TZ, orc_p, orc_l, orc_a, orc_m, e_laws_eqSlotS_l4]
  try simp only [laws_eqSlotS, evT, encs, c_js, r_map_some, e_need_t]
  all_goals rfl
theorem e_laws_eqClaim (n : Nat) (axId : Int) (axWho : Int) (axThing : Int) (axAt : Int) (axState : Int) (bxId : Int) (bxWho : Int) (bxThing : Int) (bxAt : Int) (bxState : Int) : CP T (n + 1) 166 [.agg [.i .i64 axId, .i .i64 axWho, .i .i64 axThing, .i .i64 axAt, .i .i64 axState], .agg [.i .i64 bxId, .i .i64 bxWho, .i .i64 bxThing, .i .i64 bxAt, .i .i64 bxState]] = (laws_eqClaim (⟨axId, axWho, axThing, axAt, axState⟩ : Claim) (⟨bxId, bxWho, bxThing, bxAt, bxState⟩ : Claim)).map fun r => .b r := by
  rw [CP_eq]
  simp -dsimp +contextual only [↓evA, evB, evT, tys, encs, Nat.reduceAdd, Nat.reduceMul, Nat.reduceBEq, Nat.reduceLeDiff, Nat.reduceLT, Tryz.func166, Tryz.f166, a166, TP, TZ, orc_p, orc_l, orc_a, orc_m]
  try simp only [laws_eqClaim, evT, encs, c_js, r_map_some, e_need_t]
  all_goals rfl
theorem e_laws_eqClaimS_l4 (n : Nat) {R1} {a : List Claim} {R2} {b : List Claim} (i : Int) [H1 : EncL cClaim R1 a] [H2 : EncL cClaim R2 b] : LP T (n + 2) 67 4 (frm [(0, .imm 5 R1), (1, .imm 5 R2), (5, .i .i64 i)]) [] =
    lmap (run (laws_eqClaimS_l4 a b) i) (fun (zr : Bool) => (XE.ret, frm [(4, .b zr)], [])) (fun (zr : Unit) => (XE.exit 0, frm [], [])) := by
  obtain ⟨rfl⟩ := H1
  obtain ⟨rfl⟩ := H2
  rw [LP_eq]
  simp -dsimp only [↓evA, evB, lpG_eq, Tryz.func67, Tryz.f67, a67, TP, TZ, Nat.reduceAdd, Nat.reduceMul, Nat.reduceBEq, Nat.reduceLeDiff, Nat.reduceLT]
  refine run_map (fun (zs : Int) => (frm [(0, .imm 5 (a.map cClaim)), (1, .imm 5 (b.map cClaim)), (5, .i .i64 zs)], [])) (evO (fun (zr : Bool) => (XE.ret, frm [(4, .b zr)], [])) (fun (zr : Unit) => (XE.exit 0, frm [], []))) ?_ i
  intro i
  simp -dsimp +contextual only [↓evA, evB, evT, tys, encs, Nat.reduceAdd, Nat.reduceMul, Nat.reduceBEq, Nat.reduceLeDiff, Nat.reduceLT, TP, TZ, orc_p, orc_l, orc_a, orc_m, e_laws_eqClaim]
  try simp only [laws_eqClaimS_l4, evT, encs, c_js, r_map_some, e_need_t]
  all_goals rfl
theorem e_laws_eqClaimS (n : Nat) {R1} {a : List Claim} {R2} {b : List Claim} [H1 : EncL cClaim R1 a] [H2 : EncL cClaim R2 b] : CP T (n + 3) 67 [.imm 5 R1, .imm 5 R2] = (laws_eqClaimS a b).map fun r => .b r := by
  obtain ⟨rfl⟩ := H1
  obtain ⟨rfl⟩ := H2
  rw [CP_eq]
  simp -dsimp +contextual only [↓evA, evB, evT, tys, encs, Nat.reduceAdd, Nat.reduceMul, Nat.reduceBEq, Nat.reduceLeDiff, Nat.reduceLT, Tryz.func67, Tryz.f67, a67, TP, TZ, orc_p, orc_l, orc_a, orc_m, e_laws_eqClaimS_l4]
  try simp only [laws_eqClaimS, evT, encs, c_js, r_map_some, e_need_t]
  all_goals rfl
theorem e_laws_eqTrial (n : Nat) (axClaim : Int) (axAsked : Int) (axRight : Int) (axWrong : Int) (bxClaim : Int) (bxAsked : Int) (bxRight : Int) (bxWrong : Int) : CP T (n + 1) 167 [.agg [.i .i64 axClaim, .i .i64 axAsked, .i .i64 axRight, .i .i64 axWrong], .agg [.i .i64 bxClaim, .i .i64 bxAsked, .i .i64 bxRight, .i .i64 bxWrong]] = (laws_eqTrial (⟨axClaim, axAsked, axRight, axWrong⟩ : Trial) (⟨bxClaim, bxAsked, bxRight, bxWrong⟩ : Trial)).map fun r => .b r := by
  rw [CP_eq]
  simp -dsimp +contextual only [↓evA, evB, evT, tys, encs, Nat.reduceAdd, Nat.reduceMul, Nat.reduceBEq, Nat.reduceLeDiff, Nat.reduceLT, Tryz.func167, Tryz.f167, a167, TP, TZ, orc_p, orc_l, orc_a, orc_m]
  try simp only [laws_eqTrial, evT, encs, c_js, r_map_some, e_need_t]
  all_goals rfl
theorem e_laws_eqTrialS_l4 (n : Nat) {R1} {a : List Trial} {R2} {b : List Trial} (i : Int) [H1 : EncL cTrial R1 a] [H2 : EncL cTrial R2 b] : LP T (n + 2) 68 4 (frm [(0, .imm 4 R1), (1, .imm 4 R2), (5, .i .i64 i)]) [] =
    lmap (run (laws_eqTrialS_l4 a b) i) (fun (zr : Bool) => (XE.ret, frm [(4, .b zr)], [])) (fun (zr : Unit) => (XE.exit 0, frm [], [])) := by
  obtain ⟨rfl⟩ := H1
  obtain ⟨rfl⟩ := H2
  rw [LP_eq]
  simp -dsimp only [↓evA, evB, lpG_eq, Tryz.func68, Tryz.f68, a68, TP, TZ, Nat.reduceAdd, Nat.reduceMul, Nat.reduceBEq, Nat.reduceLeDiff, Nat.reduceLT]
  refine run_map (fun (zs : Int) => (frm [(0, .imm 4 (a.map cTrial)), (1, .imm 4 (b.map cTrial)), (5, .i .i64 zs)], [])) (evO (fun (zr : Bool) => (XE.ret, frm [(4, .b zr)], [])) (fun (zr : Unit) => (XE.exit 0, frm [], []))) ?_ i
  intro i
  simp -dsimp +contextual only [↓evA, evB, evT, tys, encs, Nat.reduceAdd, Nat.reduceMul, Nat.reduceBEq, Nat.reduceLeDiff, Nat.reduceLT, TP, TZ, orc_p, orc_l, orc_a, orc_m, e_laws_eqTrial]
  try simp only [laws_eqTrialS_l4, evT, encs, c_js, r_map_some, e_need_t]
  all_goals rfl
theorem e_laws_eqTrialS (n : Nat) {R1} {a : List Trial} {R2} {b : List Trial} [H1 : EncL cTrial R1 a] [H2 : EncL cTrial R2 b] : CP T (n + 3) 68 [.imm 4 R1, .imm 4 R2] = (laws_eqTrialS a b).map fun r => .b r := by
  obtain ⟨rfl⟩ := H1
  obtain ⟨rfl⟩ := H2
  rw [CP_eq]
  simp -dsimp +contextual only [↓evA, evB, evT, tys, encs, Nat.reduceAdd, Nat.reduceMul, Nat.reduceBEq, Nat.reduceLeDiff, Nat.reduceLT, Tryz.func68, Tryz.f68, a68, TP, TZ, orc_p, orc_l, orc_a, orc_m, e_laws_eqTrialS_l4]
  try simp only [laws_eqTrialS, evT, encs, c_js, r_map_some, e_need_t]
  all_goals rfl
theorem e_laws_eqHand (n : Nat) (axThing : Int) (axHolder : Int) (axWho : Int) (axAt : Int) (axSeal : Int) (bxThing : Int) (bxHolder : Int) (bxWho : Int) (bxAt : Int) (bxSeal : Int) : CP T (n + 1) 168 [.agg [.i .i64 axThing, .i .i64 axHolder, .i .i64 axWho, .i .i64 axAt, .i .i64 axSeal], .agg [.i .i64 bxThing, .i .i64 bxHolder, .i .i64 bxWho, .i .i64 bxAt, .i .i64 bxSeal]] = (laws_eqHand (⟨axThing, axHolder, axWho, axAt, axSeal⟩ : Hand) (⟨bxThing, bxHolder, bxWho, bxAt, bxSeal⟩ : Hand)).map fun r => .b r := by
  rw [CP_eq]
  simp -dsimp +contextual only [↓evA, evB, evT, tys, encs, Nat.reduceAdd, Nat.reduceMul, Nat.reduceBEq, Nat.reduceLeDiff, Nat.reduceLT, Tryz.func168, Tryz.f168, a168, TP, TZ, orc_p, orc_l, orc_a, orc_m]
  try simp only [laws_eqHand, evT, encs, c_js, r_map_some, e_need_t]
  all_goals rfl
theorem e_laws_eqHandS_l4 (n : Nat) {R1} {a : List Hand} {R2} {b : List Hand} (i : Int) [H1 : EncL cHand R1 a] [H2 : EncL cHand R2 b] : LP T (n + 2) 69 4 (frm [(0, .imm 5 R1), (1, .imm 5 R2), (5, .i .i64 i)]) [] =
    lmap (run (laws_eqHandS_l4 a b) i) (fun (zr : Bool) => (XE.ret, frm [(4, .b zr)], [])) (fun (zr : Unit) => (XE.exit 0, frm [], [])) := by
  obtain ⟨rfl⟩ := H1
  obtain ⟨rfl⟩ := H2
  rw [LP_eq]
  simp -dsimp only [↓evA, evB, lpG_eq, Tryz.func69, Tryz.f69, a69, TP, TZ, Nat.reduceAdd, Nat.reduceMul, Nat.reduceBEq, Nat.reduceLeDiff, Nat.reduceLT]
  refine run_map (fun (zs : Int) => (frm [(0, .imm 5 (a.map cHand)), (1, .imm 5 (b.map cHand)), (5, .i .i64 zs)], [])) (evO (fun (zr : Bool) => (XE.ret, frm [(4, .b zr)], [])) (fun (zr : Unit) => (XE.exit 0, frm [], []))) ?_ i
  intro i
  simp -dsimp +contextual only [↓evA, evB, evT, tys, encs, Nat.reduceAdd, Nat.reduceMul, Nat.reduceBEq, Nat.reduceLeDiff, Nat.reduceLT, TP, TZ, orc_p, orc_l, orc_a, orc_m, e_laws_eqHand]
  try simp only [laws_eqHandS_l4, evT, encs, c_js, r_map_some, e_need_t]
  all_goals rfl
theorem e_laws_eqHandS (n : Nat) {R1} {a : List Hand} {R2} {b : List Hand} [H1 : EncL cHand R1 a] [H2 : EncL cHand R2 b] : CP T (n + 3) 69 [.imm 5 R1, .imm 5 R2] = (laws_eqHandS a b).map fun r => .b r := by
  obtain ⟨rfl⟩ := H1
  obtain ⟨rfl⟩ := H2
  rw [CP_eq]
  simp -dsimp +contextual only [↓evA, evB, evT, tys, encs, Nat.reduceAdd, Nat.reduceMul, Nat.reduceBEq, Nat.reduceLeDiff, Nat.reduceLT, Tryz.func69, Tryz.f69, a69, TP, TZ, orc_p, orc_l, orc_a, orc_m, e_laws_eqHandS_l4]
  try simp only [laws_eqHandS, evT, encs, c_js, r_map_some, e_need_t]
  all_goals rfl
theorem e_laws_eqEntry (n : Nat) (axFrom : Int) (axTo : Int) (axCents : Int) (axAt : Int) (bxFrom : Int) (bxTo : Int) (bxCents : Int) (bxAt : Int) : CP T (n + 1) 169 [.agg [.i .i64 axFrom, .i .i64 axTo, .i .i64 axCents, .i .i64 axAt], .agg [.i .i64 bxFrom, .i .i64 bxTo, .i .i64 bxCents, .i .i64 bxAt]] = (laws_eqEntry (⟨axFrom, axTo, axCents, axAt⟩ : Entry) (⟨bxFrom, bxTo, bxCents, bxAt⟩ : Entry)).map fun r => .b r := by
  rw [CP_eq]
  simp -dsimp +contextual only [↓evA, evB, evT, tys, encs, Nat.reduceAdd, Nat.reduceMul, Nat.reduceBEq, Nat.reduceLeDiff, Nat.reduceLT, Tryz.func169, Tryz.f169, a169, TP, TZ, orc_p, orc_l, orc_a, orc_m]
  try simp only [laws_eqEntry, evT, encs, c_js, r_map_some, e_need_t]
  all_goals rfl
theorem e_laws_eqEntryS_l4 (n : Nat) {R1} {a : List Entry} {R2} {b : List Entry} (i : Int) [H1 : EncL cEntry R1 a] [H2 : EncL cEntry R2 b] : LP T (n + 2) 70 4 (frm [(0, .imm 4 R1), (1, .imm 4 R2), (5, .i .i64 i)]) [] =
    lmap (run (laws_eqEntryS_l4 a b) i) (fun (zr : Bool) => (XE.ret, frm [(4, .b zr)], [])) (fun (zr : Unit) => (XE.exit 0, frm [], [])) := by
  obtain ⟨rfl⟩ := H1
  obtain ⟨rfl⟩ := H2
  rw [LP_eq]
  simp -dsimp only [↓evA, evB, lpG_eq, Tryz.func70, Tryz.f70, a70, TP, TZ, Nat.reduceAdd, Nat.reduceMul, Nat.reduceBEq, Nat.reduceLeDiff, Nat.reduceLT]
  refine run_map (fun (zs : Int) => (frm [(0, .imm 4 (a.map cEntry)), (1, .imm 4 (b.map cEntry)), (5, .i .i64 zs)], [])) (evO (fun (zr : Bool) => (XE.ret, frm [(4, .b zr)], [])) (fun (zr : Unit) => (XE.exit 0, frm [], []))) ?_ i
  intro i
  simp -dsimp +contextual only [↓evA, evB, evT, tys, encs, Nat.reduceAdd, Nat.reduceMul, Nat.reduceBEq, Nat.reduceLeDiff, Nat.reduceLT, TP, TZ, orc_p, orc_l, orc_a, orc_m, e_laws_eqEntry]
  try simp only [laws_eqEntryS_l4, evT, encs, c_js, r_map_some, e_need_t]
  all_goals rfl
theorem e_laws_eqEntryS (n : Nat) {R1} {a : List Entry} {R2} {b : List Entry} [H1 : EncL cEntry R1 a] [H2 : EncL cEntry R2 b] : CP T (n + 3) 70 [.imm 4 R1, .imm 4 R2] = (laws_eqEntryS a b).map fun r => .b r := by
  obtain ⟨rfl⟩ := H1
  obtain ⟨rfl⟩ := H2
  rw [CP_eq]
  simp -dsimp +contextual only [↓evA, evB, evT, tys, encs, Nat.reduceAdd, Nat.reduceMul, Nat.reduceBEq, Nat.reduceLeDiff, Nat.reduceLT, Tryz.func70, Tryz.f70, a70, TP, TZ, orc_p, orc_l, orc_a, orc_m, e_laws_eqEntryS_l4]
  try simp only [laws_eqEntryS, evT, encs, c_js, r_map_some, e_need_t]
  all_goals rfl
theorem e_laws_eqHouse (n : Nat) (axNo : Int) {R1} {axFinds : List Find} {R2} {axSecrets : List Secret} {R3} {axSlots : List Slot} {R4} {axClaims : List Claim} {R5} {axTrials : List Trial} {R6} {axChain : List Hand} {R7} {axBook : List Entry} (axNow : Int) (bxNo : Int) {R8} {bxFinds : List Find} {R9} {bxSecrets : List Secret} {R10} {bxSlots : List Slot} {R11} {bxClaims : List Claim} {R12} {bxTrials : List Trial} {R13} {bxChain : List Hand} {R14} {bxBook : List Entry} (bxNow : Int) [H1 : EncL cFind R1 axFinds] [H2 : EncL cSecret R2 axSecrets] [H3 : EncL cSlot R3 axSlots] [H4 : EncL cClaim R4 axClaims] [H5 : EncL cTrial R5 axTrials] [H6 : EncL cHand R6 axChain] [H7 : EncL cEntry R7 axBook] [H8 : EncL cFind R8 bxFinds] [H9 : EncL cSecret R9 bxSecrets] [H10 : EncL cSlot R10 bxSlots] [H11 : EncL cClaim R11 bxClaims] [H12 : EncL cTrial R12 bxTrials] [H13 : EncL cHand R13 bxChain] [H14 : EncL cEntry R14 bxBook] : CP T (n + 7) 17 [.agg [.i .i64 axNo, .imm 8 R1, .imm 3 R2, .imm 3 R3, .imm 5 R4, .imm 4 R5, .imm 5 R6, .imm 4 R7, .i .i64 axNow], .agg [.i .i64 bxNo, .imm 8 R8, .imm 3 R9, .imm 3 R10, .imm 5 R11, .imm 4 R12, .imm 5 R13, .imm 4 R14, .i .i64 bxNow]] = (laws_eqHouse (⟨axNo, axFinds, axSecrets, axSlots, axClaims, axTrials, axChain, axBook, axNow⟩ : House) (⟨bxNo, bxFinds, bxSecrets, bxSlots, bxClaims, bxTrials, bxChain, bxBook, bxNow⟩ : House)).map fun r => .b r := by
  obtain ⟨rfl⟩ := H1
  obtain ⟨rfl⟩ := H2
  obtain ⟨rfl⟩ := H3
  obtain ⟨rfl⟩ := H4
  obtain ⟨rfl⟩ := H5
  obtain ⟨rfl⟩ := H6
  obtain ⟨rfl⟩ := H7
  obtain ⟨rfl⟩ := H8
  obtain ⟨rfl⟩ := H9
  obtain ⟨rfl⟩ := H10
  obtain ⟨rfl⟩ := H11
  obtain ⟨rfl⟩ := H12
  obtain ⟨rfl⟩ := H13
  obtain ⟨rfl⟩ := H14
  rw [CP_eq]
  simp -dsimp +contextual only [↓evA, evB, evT, tys, encs, Nat.reduceAdd, Nat.reduceMul, Nat.reduceBEq, Nat.reduceLeDiff, Nat.reduceLT, Tryz.func17, Tryz.f17, a17, TP, TZ, orc_p, orc_l, orc_a, orc_m, e_laws_eqFindS, e_laws_eqSecretS, e_laws_eqSlotS, e_laws_eqClaimS, e_laws_eqTrialS, e_laws_eqHandS, e_laws_eqEntryS]
  try simp only [laws_eqHouse, evT, encs, c_js, r_map_some, e_need_t]
  all_goals rfl
theorem e_laws_markSlotS_l2 (n : Nat) {R1} {a : List Slot} (k : Int) (i : Int) [H1 : EncL cSlot R1 a] : LP T (n + 1) 19 2 (frm [(0, .sl 0), (1, .i .i64 k), (5, .i .i64 i)]) [some (Ent.lst 3 R1)] =
    (run laws_markSlotS_l2 (a, k, i)).map (fun (zr : (List Slot) × Int) => (XE.exit 0, frm [(0, .sl 0), (1, .i .i64 zr.2)], [some (Ent.lst 3 (zr.1.map cSlot))])) := by
  obtain ⟨rfl⟩ := H1
  rw [LP_eq]
  simp -dsimp only [↓evA, evB, lpG_eq, Tryz.func19, Tryz.f19, a19, TP, TZ, Nat.reduceAdd, Nat.reduceMul, Nat.reduceBEq, Nat.reduceLeDiff, Nat.reduceLT]
  refine run_map (fun (zs : (List Slot) × Int × Int) => (frm [(0, .sl 0), (1, .i .i64 zs.2.1), (5, .i .i64 zs.2.2)], [some (Ent.lst 3 (zs.1.map cSlot))])) (fun (zr : (List Slot) × Int) => (XE.exit 0, frm [(0, .sl 0), (1, .i .i64 zr.2)], [some (Ent.lst 3 (zr.1.map cSlot))])) ?_ (a, k, i)
  rintro ⟨a, k, i⟩
  simp -dsimp +contextual only [↓evA, evB, evT, tys, encs, Nat.reduceAdd, Nat.reduceMul, Nat.reduceBEq, Nat.reduceLeDiff, Nat.reduceLT, TP, TZ, orc_p, orc_l, orc_a, orc_m]
  try simp only [laws_markSlotS_l2, evT, encs, c_js, r_map_some, e_need_t]
  all_goals rfl
theorem e_laws_markSlotS (n : Nat) {R1} {a : List Slot} (k : Int) [H1 : EncL cSlot R1 a] : CA T (n + 2) 19 [some (Ent.lst 3 R1)] [.sl 0, .i .i64 k] = (laws_markSlotS a k).map fun r => (.i .i64 r.2, [some (Ent.lst 3 (r.1.map cSlot))]) := by
  obtain ⟨rfl⟩ := H1
  rw [CA_eq]
  simp -dsimp +contextual only [↓evA, evB, evT, tys, encs, Nat.reduceAdd, Nat.reduceMul, Nat.reduceBEq, Nat.reduceLeDiff, Nat.reduceLT, Tryz.func19, Tryz.f19, a19, TP, TZ, orc_p, orc_l, orc_a, orc_m, e_laws_markSlotS_l2]
  try simp only [laws_markSlotS, evT, encs, c_js, r_map_some, e_need_t]
  all_goals rfl
theorem e_laws_markFindS_l2 (n : Nat) {R1} {a : List Find} (t1 : Int) (t5 : Int) [H1 : EncL cFind R1 a] : LP T (n + 1) 72 2 (frm [(0, .sl 0), (1, .i .i64 t1), (5, .i .i64 t5)]) [some (Ent.lst 8 R1)] =
    (run laws_markFindS_l2 (a, t1, t5)).map (fun (zr : (List Find) × Int) => (XE.exit 0, frm [(0, .sl 0), (1, .i .i64 zr.2)], [some (Ent.lst 8 (zr.1.map cFind))])) := by
  obtain ⟨rfl⟩ := H1
  rw [LP_eq]
  simp -dsimp only [↓evA, evB, lpG_eq, Tryz.func72, Tryz.f72, a72, TP, TZ, Nat.reduceAdd, Nat.reduceMul, Nat.reduceBEq, Nat.reduceLeDiff, Nat.reduceLT]
  refine run_map (fun (zs : (List Find) × Int × Int) => (frm [(0, .sl 0), (1, .i .i64 zs.2.1), (5, .i .i64 zs.2.2)], [some (Ent.lst 8 (zs.1.map cFind))])) (fun (zr : (List Find) × Int) => (XE.exit 0, frm [(0, .sl 0), (1, .i .i64 zr.2)], [some (Ent.lst 8 (zr.1.map cFind))])) ?_ (a, t1, t5)
  rintro ⟨a, t1, t5⟩
  simp -dsimp +contextual only [↓evA, evB, evT, tys, encs, Nat.reduceAdd, Nat.reduceMul, Nat.reduceBEq, Nat.reduceLeDiff, Nat.reduceLT, TP, TZ, orc_p, orc_l, orc_a, orc_m]
  try simp only [laws_markFindS_l2, evT, encs, c_js, r_map_some, e_need_t]
  all_goals rfl
theorem e_laws_markFindS (n : Nat) {R1} {a : List Find} (a2 : Int) [H1 : EncL cFind R1 a] : CA T (n + 2) 72 [some (Ent.lst 8 R1)] [.sl 0, .i .i64 a2] = (laws_markFindS a a2).map fun r => (.i .i64 r.2, [some (Ent.lst 8 (r.1.map cFind))]) := by
  obtain ⟨rfl⟩ := H1
  rw [CA_eq]
  simp -dsimp +contextual only [↓evA, evB, evT, tys, encs, Nat.reduceAdd, Nat.reduceMul, Nat.reduceBEq, Nat.reduceLeDiff, Nat.reduceLT, Tryz.func72, Tryz.f72, a72, TP, TZ, orc_p, orc_l, orc_a, orc_m, e_laws_markFindS_l2]
  try simp only [laws_markFindS, evT, encs, c_js, r_map_some, e_need_t]
  all_goals rfl
theorem e_laws_markMarkS_l2 (n : Nat) {R1} {a : List Mark} (k : Int) (i : Int) [H1 : EncL cMark R1 a] : LP T (n + 1) 40 2 (frm [(0, .sl 0), (1, .i .i64 k), (5, .i .i64 i)]) [some (Ent.lst 2 R1)] =
    (run laws_markMarkS_l2 (a, k, i)).map (fun (zr : (List Mark) × Int) => (XE.exit 0, frm [(0, .sl 0), (1, .i .i64 zr.2)], [some (Ent.lst 2 (zr.1.map cMark))])) := by
  obtain ⟨rfl⟩ := H1
  rw [LP_eq]
  simp -dsimp only [↓evA, evB, lpG_eq, Tryz.func40, Tryz.f40, a40, TP, TZ, Nat.reduceAdd, Nat.reduceMul, Nat.reduceBEq, Nat.reduceLeDiff, Nat.reduceLT]
  refine run_map (fun (zs : (List Mark) × Int × Int) => (frm [(0, .sl 0), (1, .i .i64 zs.2.1), (5, .i .i64 zs.2.2)], [some (Ent.lst 2 (zs.1.map cMark))])) (fun (zr : (List Mark) × Int) => (XE.exit 0, frm [(0, .sl 0), (1, .i .i64 zr.2)], [some (Ent.lst 2 (zr.1.map cMark))])) ?_ (a, k, i)
  rintro ⟨a, k, i⟩
  simp -dsimp +contextual only [↓evA, evB, evT, tys, encs, Nat.reduceAdd, Nat.reduceMul, Nat.reduceBEq, Nat.reduceLeDiff, Nat.reduceLT, TP, TZ, orc_p, orc_l, orc_a, orc_m]
  try simp only [laws_markMarkS_l2, evT, encs, c_js, r_map_some, e_need_t]
  all_goals rfl
theorem e_laws_markMarkS (n : Nat) {R1} {a : List Mark} (k : Int) [H1 : EncL cMark R1 a] : CA T (n + 2) 40 [some (Ent.lst 2 R1)] [.sl 0, .i .i64 k] = (laws_markMarkS a k).map fun r => (.i .i64 r.2, [some (Ent.lst 2 (r.1.map cMark))]) := by
  obtain ⟨rfl⟩ := H1
  rw [CA_eq]
  simp -dsimp +contextual only [↓evA, evB, evT, tys, encs, Nat.reduceAdd, Nat.reduceMul, Nat.reduceBEq, Nat.reduceLeDiff, Nat.reduceLT, Tryz.func40, Tryz.f40, a40, TP, TZ, orc_p, orc_l, orc_a, orc_m, e_laws_markMarkS_l2]
  try simp only [laws_markMarkS, evT, encs, c_js, r_map_some, e_need_t]
  all_goals rfl
theorem e_laws_markSecretS_l2 (n : Nat) {R1} {a : List Secret} (k : Int) (i : Int) [H1 : EncL cSecretO R1 a] : LP T (n + 3) 73 2 (frm [(0, .sl 0), (1, .i .i64 k), (5, .i .i64 i)]) [some (Ent.lst 3 R1)] =
    (run laws_markSecretS_l2 (a, k, i)).map (fun (zr : (List Secret) × Int) => (XE.exit 0, frm [(0, .sl 0), (1, .i .i64 zr.2)], [some (Ent.lst 3 (zr.1.map cSecretO))])) := by
  obtain ⟨rfl⟩ := H1
  rw [LP_eq]
  simp -dsimp only [↓evA, evB, lpG_eq, Tryz.func73, Tryz.f73, a73, TP, TZ, Nat.reduceAdd, Nat.reduceMul, Nat.reduceBEq, Nat.reduceLeDiff, Nat.reduceLT]
  refine run_map (fun (zs : (List Secret) × Int × Int) => (frm [(0, .sl 0), (1, .i .i64 zs.2.1), (5, .i .i64 zs.2.2)], [some (Ent.lst 3 (zs.1.map cSecretO))])) (fun (zr : (List Secret) × Int) => (XE.exit 0, frm [(0, .sl 0), (1, .i .i64 zr.2)], [some (Ent.lst 3 (zr.1.map cSecretO))])) ?_ (a, k, i)
  rintro ⟨a, k, i⟩
  simp -dsimp +contextual only [↓evA, evB, evT, tys, encs, Nat.reduceAdd, Nat.reduceMul, Nat.reduceBEq, Nat.reduceLeDiff, Nat.reduceLT, TP, TZ, orc_p, orc_l, orc_a, orc_m, srt, e_laws_markMarkS]
  try simp only [laws_markSecretS_l2, evT, encs, c_js, r_map_some, e_need_t]
  all_goals rfl
theorem e_laws_markSecretS (n : Nat) {R1} {a : List Secret} (k : Int) [H1 : EncL cSecretO R1 a] : CA T (n + 4) 73 [some (Ent.lst 3 R1)] [.sl 0, .i .i64 k] = (laws_markSecretS a k).map fun r => (.i .i64 r.2, [some (Ent.lst 3 (r.1.map cSecretO))]) := by
  obtain ⟨rfl⟩ := H1
  rw [CA_eq]
  simp -dsimp +contextual only [↓evA, evB, evT, tys, encs, Nat.reduceAdd, Nat.reduceMul, Nat.reduceBEq, Nat.reduceLeDiff, Nat.reduceLT, Tryz.func73, Tryz.f73, a73, TP, TZ, orc_p, orc_l, orc_a, orc_m, e_laws_markSecretS_l2]
  try simp only [laws_markSecretS, evT, encs, c_js, r_map_some, e_need_t]
  all_goals rfl
theorem e_laws_markClaimS_l2 (n : Nat) {R1} {a : List Claim} (k : Int) (i : Int) [H1 : EncL cClaim R1 a] : LP T (n + 1) 74 2 (frm [(0, .sl 0), (1, .i .i64 k), (5, .i .i64 i)]) [some (Ent.lst 5 R1)] =
    (run laws_markClaimS_l2 (a, k, i)).map (fun (zr : (List Claim) × Int) => (XE.exit 0, frm [(0, .sl 0), (1, .i .i64 zr.2)], [some (Ent.lst 5 (zr.1.map cClaim))])) := by
  obtain ⟨rfl⟩ := H1
  rw [LP_eq]
  simp -dsimp only [↓evA, evB, lpG_eq, Tryz.func74, Tryz.f74, a74, TP, TZ, Nat.reduceAdd, Nat.reduceMul, Nat.reduceBEq, Nat.reduceLeDiff, Nat.reduceLT]
  refine run_map (fun (zs : (List Claim) × Int × Int) => (frm [(0, .sl 0), (1, .i .i64 zs.2.1), (5, .i .i64 zs.2.2)], [some (Ent.lst 5 (zs.1.map cClaim))])) (fun (zr : (List Claim) × Int) => (XE.exit 0, frm [(0, .sl 0), (1, .i .i64 zr.2)], [some (Ent.lst 5 (zr.1.map cClaim))])) ?_ (a, k, i)
  rintro ⟨a, k, i⟩
  simp -dsimp +contextual only [↓evA, evB, evT, tys, encs, Nat.reduceAdd, Nat.reduceMul, Nat.reduceBEq, Nat.reduceLeDiff, Nat.reduceLT, TP, TZ, orc_p, orc_l, orc_a, orc_m]
  try simp only [laws_markClaimS_l2, evT, encs, c_js, r_map_some, e_need_t]
  all_goals rfl
theorem e_laws_markClaimS (n : Nat) {R1} {a : List Claim} (k : Int) [H1 : EncL cClaim R1 a] : CA T (n + 2) 74 [some (Ent.lst 5 R1)] [.sl 0, .i .i64 k] = (laws_markClaimS a k).map fun r => (.i .i64 r.2, [some (Ent.lst 5 (r.1.map cClaim))]) := by
  obtain ⟨rfl⟩ := H1
  rw [CA_eq]
  simp -dsimp +contextual only [↓evA, evB, evT, tys, encs, Nat.reduceAdd, Nat.reduceMul, Nat.reduceBEq, Nat.reduceLeDiff, Nat.reduceLT, Tryz.func74, Tryz.f74, a74, TP, TZ, orc_p, orc_l, orc_a, orc_m, e_laws_markClaimS_l2]
  try simp only [laws_markClaimS, evT, encs, c_js, r_map_some, e_need_t]
  all_goals rfl
theorem e_laws_markTrialS_l2 (n : Nat) {R1} {a : List Trial} (k : Int) (i : Int) [H1 : EncL cTrial R1 a] : LP T (n + 1) 75 2 (frm [(0, .sl 0), (1, .i .i64 k), (5, .i .i64 i)]) [some (Ent.lst 4 R1)] =
    (run laws_markTrialS_l2 (a, k, i)).map (fun (zr : (List Trial) × Int) => (XE.exit 0, frm [(0, .sl 0), (1, .i .i64 zr.2)], [some (Ent.lst 4 (zr.1.map cTrial))])) := by
  obtain ⟨rfl⟩ := H1
  rw [LP_eq]
  simp -dsimp only [↓evA, evB, lpG_eq, Tryz.func75, Tryz.f75, a75, TP, TZ, Nat.reduceAdd, Nat.reduceMul, Nat.reduceBEq, Nat.reduceLeDiff, Nat.reduceLT]
  refine run_map (fun (zs : (List Trial) × Int × Int) => (frm [(0, .sl 0), (1, .i .i64 zs.2.1), (5, .i .i64 zs.2.2)], [some (Ent.lst 4 (zs.1.map cTrial))])) (fun (zr : (List Trial) × Int) => (XE.exit 0, frm [(0, .sl 0), (1, .i .i64 zr.2)], [some (Ent.lst 4 (zr.1.map cTrial))])) ?_ (a, k, i)
  rintro ⟨a, k, i⟩
  simp -dsimp +contextual only [↓evA, evB, evT, tys, encs, Nat.reduceAdd, Nat.reduceMul, Nat.reduceBEq, Nat.reduceLeDiff, Nat.reduceLT, TP, TZ, orc_p, orc_l, orc_a, orc_m]
  try simp only [laws_markTrialS_l2, evT, encs, c_js, r_map_some, e_need_t]
  all_goals rfl
theorem e_laws_markTrialS (n : Nat) {R1} {a : List Trial} (k : Int) [H1 : EncL cTrial R1 a] : CA T (n + 2) 75 [some (Ent.lst 4 R1)] [.sl 0, .i .i64 k] = (laws_markTrialS a k).map fun r => (.i .i64 r.2, [some (Ent.lst 4 (r.1.map cTrial))]) := by
  obtain ⟨rfl⟩ := H1
  rw [CA_eq]
  simp -dsimp +contextual only [↓evA, evB, evT, tys, encs, Nat.reduceAdd, Nat.reduceMul, Nat.reduceBEq, Nat.reduceLeDiff, Nat.reduceLT, Tryz.func75, Tryz.f75, a75, TP, TZ, orc_p, orc_l, orc_a, orc_m, e_laws_markTrialS_l2]
  try simp only [laws_markTrialS, evT, encs, c_js, r_map_some, e_need_t]
  all_goals rfl
theorem e_laws_markHandS_l2 (n : Nat) {R1} {a : List Hand} (k : Int) (i : Int) [H1 : EncL cHand R1 a] : LP T (n + 1) 76 2 (frm [(0, .sl 0), (1, .i .i64 k), (5, .i .i64 i)]) [some (Ent.lst 5 R1)] =
    (run laws_markHandS_l2 (a, k, i)).map (fun (zr : (List Hand) × Int) => (XE.exit 0, frm [(0, .sl 0), (1, .i .i64 zr.2)], [some (Ent.lst 5 (zr.1.map cHand))])) := by
  obtain ⟨rfl⟩ := H1
  rw [LP_eq]
  simp -dsimp only [↓evA, evB, lpG_eq, Tryz.func76, Tryz.f76, a76, TP, TZ, Nat.reduceAdd, Nat.reduceMul, Nat.reduceBEq, Nat.reduceLeDiff, Nat.reduceLT]
  refine run_map (fun (zs : (List Hand) × Int × Int) => (frm [(0, .sl 0), (1, .i .i64 zs.2.1), (5, .i .i64 zs.2.2)], [some (Ent.lst 5 (zs.1.map cHand))])) (fun (zr : (List Hand) × Int) => (XE.exit 0, frm [(0, .sl 0), (1, .i .i64 zr.2)], [some (Ent.lst 5 (zr.1.map cHand))])) ?_ (a, k, i)
  rintro ⟨a, k, i⟩
  simp -dsimp +contextual only [↓evA, evB, evT, tys, encs, Nat.reduceAdd, Nat.reduceMul, Nat.reduceBEq, Nat.reduceLeDiff, Nat.reduceLT, TP, TZ, orc_p, orc_l, orc_a, orc_m]
  try simp only [laws_markHandS_l2, evT, encs, c_js, r_map_some, e_need_t]
  all_goals rfl
theorem e_laws_markHandS (n : Nat) {R1} {a : List Hand} (k : Int) [H1 : EncL cHand R1 a] : CA T (n + 2) 76 [some (Ent.lst 5 R1)] [.sl 0, .i .i64 k] = (laws_markHandS a k).map fun r => (.i .i64 r.2, [some (Ent.lst 5 (r.1.map cHand))]) := by
  obtain ⟨rfl⟩ := H1
  rw [CA_eq]
  simp -dsimp +contextual only [↓evA, evB, evT, tys, encs, Nat.reduceAdd, Nat.reduceMul, Nat.reduceBEq, Nat.reduceLeDiff, Nat.reduceLT, Tryz.func76, Tryz.f76, a76, TP, TZ, orc_p, orc_l, orc_a, orc_m, e_laws_markHandS_l2]
  try simp only [laws_markHandS, evT, encs, c_js, r_map_some, e_need_t]
  all_goals rfl
theorem e_laws_markEntryS_l2 (n : Nat) {R1} {a : List Entry} (k : Int) (i : Int) [H1 : EncL cEntry R1 a] : LP T (n + 1) 77 2 (frm [(0, .sl 0), (1, .i .i64 k), (5, .i .i64 i)]) [some (Ent.lst 4 R1)] =
    (run laws_markEntryS_l2 (a, k, i)).map (fun (zr : (List Entry) × Int) => (XE.exit 0, frm [(0, .sl 0), (1, .i .i64 zr.2)], [some (Ent.lst 4 (zr.1.map cEntry))])) := by
  obtain ⟨rfl⟩ := H1
  rw [LP_eq]
  simp -dsimp only [↓evA, evB, lpG_eq, Tryz.func77, Tryz.f77, a77, TP, TZ, Nat.reduceAdd, Nat.reduceMul, Nat.reduceBEq, Nat.reduceLeDiff, Nat.reduceLT]
  refine run_map (fun (zs : (List Entry) × Int × Int) => (frm [(0, .sl 0), (1, .i .i64 zs.2.1), (5, .i .i64 zs.2.2)], [some (Ent.lst 4 (zs.1.map cEntry))])) (fun (zr : (List Entry) × Int) => (XE.exit 0, frm [(0, .sl 0), (1, .i .i64 zr.2)], [some (Ent.lst 4 (zr.1.map cEntry))])) ?_ (a, k, i)
  rintro ⟨a, k, i⟩
  simp -dsimp +contextual only [↓evA, evB, evT, tys, encs, Nat.reduceAdd, Nat.reduceMul, Nat.reduceBEq, Nat.reduceLeDiff, Nat.reduceLT, TP, TZ, orc_p, orc_l, orc_a, orc_m]
  try simp only [laws_markEntryS_l2, evT, encs, c_js, r_map_some, e_need_t]
  all_goals rfl
theorem e_laws_markEntryS (n : Nat) {R1} {a : List Entry} (k : Int) [H1 : EncL cEntry R1 a] : CA T (n + 2) 77 [some (Ent.lst 4 R1)] [.sl 0, .i .i64 k] = (laws_markEntryS a k).map fun r => (.i .i64 r.2, [some (Ent.lst 4 (r.1.map cEntry))]) := by
  obtain ⟨rfl⟩ := H1
  rw [CA_eq]
  simp -dsimp +contextual only [↓evA, evB, evT, tys, encs, Nat.reduceAdd, Nat.reduceMul, Nat.reduceBEq, Nat.reduceLeDiff, Nat.reduceLT, Tryz.func77, Tryz.f77, a77, TP, TZ, orc_p, orc_l, orc_a, orc_m, e_laws_markEntryS_l2]
  try simp only [laws_markEntryS, evT, encs, c_js, r_map_some, e_need_t]
  all_goals rfl
theorem e_laws_markHouse (n : Nat) (axNo : Int) {R1} {axFinds : List Find} {R2} {axSecrets : List Secret} {R3} {axSlots : List Slot} {R4} {axClaims : List Claim} {R5} {axTrials : List Trial} {R6} {axChain : List Hand} {R7} {axBook : List Entry} (axNow : Int) (k : Int) [H1 : EncL cFind R1 axFinds] [H2 : EncL cSecretO R2 axSecrets] [H3 : EncL cSlot R3 axSlots] [H4 : EncL cClaim R4 axClaims] [H5 : EncL cTrial R5 axTrials] [H6 : EncL cHand R6 axChain] [H7 : EncL cEntry R7 axBook] : CA T (n + 5) 20 [some (Ent.lst 8 R1), some (Ent.lst 3 R2), some (Ent.lst 3 R3), some (Ent.lst 5 R4), some (Ent.lst 4 R5), some (Ent.lst 5 R6), some (Ent.lst 4 R7)] [.agg [.i .i64 axNo, .sl 0, .sl 1, .sl 2, .sl 3, .sl 4, .sl 5, .sl 6, .i .i64 axNow], .i .i64 k] = (laws_markHouse (⟨axNo, axFinds, axSecrets, axSlots, axClaims, axTrials, axChain, axBook, axNow⟩ : House) k).map fun r => (.i .i64 r.2, [some (Ent.lst 8 (r.1.Finds.map cFind)), some (Ent.lst 3 (r.1.Secrets.map cSecretO)), some (Ent.lst 3 (r.1.Slots.map cSlot)), some (Ent.lst 5 (r.1.Claims.map cClaim)), some (Ent.lst 4 (r.1.Trials.map cTrial)), some (Ent.lst 5 (r.1.Chain.map cHand)), some (Ent.lst 4 (r.1.Book.map cEntry))]) := by
  obtain ⟨rfl⟩ := H1
  obtain ⟨rfl⟩ := H2
  obtain ⟨rfl⟩ := H3
  obtain ⟨rfl⟩ := H4
  obtain ⟨rfl⟩ := H5
  obtain ⟨rfl⟩ := H6
  obtain ⟨rfl⟩ := H7
  rw [CA_eq]
  simp -dsimp +contextual only [↓evA, evB, evT, tys, encs, Nat.reduceAdd, Nat.reduceMul, Nat.reduceBEq, Nat.reduceLeDiff, Nat.reduceLT, Tryz.func20, Tryz.f20, a20, TP, TZ, orc_p, orc_l, orc_a, orc_m, srt, e_laws_markFindS, e_laws_markSecretS, e_laws_markSlotS, e_laws_markClaimS, e_laws_markTrialS, e_laws_markHandS, e_laws_markEntryS]
  try simp only [laws_markHouse, evT, encs, c_js, r_map_some, e_need_t]
  all_goals rfl
theorem e_laws_heldFindS_l2 (n : Nat) {R1} {a : List Find} (t1 : Int) (t5 : Int) [H1 : EncL cFind R1 a] : LP T (n + 1) 78 2 (frm [(0, .imm 8 R1), (1, .i .i64 t1), (5, .i .i64 t5)]) [] =
    lmap (run (laws_heldFindS_l2 a) (t1, t5)) (fun (zr : Int) => (XE.ret, frm [(4, .i .i64 zr)], [])) (fun (zr : Int) => (XE.exit 0, frm [(1, .i .i64 zr)], [])) := by
  obtain ⟨rfl⟩ := H1
  rw [LP_eq]
  simp -dsimp only [↓evA, evB, lpG_eq, Tryz.func78, Tryz.f78, a78, TP, TZ, Nat.reduceAdd, Nat.reduceMul, Nat.reduceBEq, Nat.reduceLeDiff, Nat.reduceLT]
  refine run_map (fun (zs : Int × Int) => (frm [(0, .imm 8 (a.map cFind)), (1, .i .i64 zs.1), (5, .i .i64 zs.2)], [])) (evO (fun (zr : Int) => (XE.ret, frm [(4, .i .i64 zr)], [])) (fun (zr : Int) => (XE.exit 0, frm [(1, .i .i64 zr)], []))) ?_ (t1, t5)
  rintro ⟨t1, t5⟩
  simp -dsimp +contextual only [↓evA, evB, evT, tys, encs, Nat.reduceAdd, Nat.reduceMul, Nat.reduceBEq, Nat.reduceLeDiff, Nat.reduceLT, TP, TZ, orc_p, orc_l, orc_a, orc_m]
  try simp only [laws_heldFindS_l2, evT, encs, c_js, r_map_some, e_need_t]
  all_goals rfl
theorem e_laws_heldFindS (n : Nat) {R1} {a : List Find} (a2 : Int) [H1 : EncL cFind R1 a] : CP T (n + 2) 78 [.imm 8 R1, .i .i64 a2] = (laws_heldFindS a a2).map fun r => .i .i64 r := by
  obtain ⟨rfl⟩ := H1
  rw [CP_eq]
  simp -dsimp +contextual only [↓evA, evB, evT, tys, encs, Nat.reduceAdd, Nat.reduceMul, Nat.reduceBEq, Nat.reduceLeDiff, Nat.reduceLT, Tryz.func78, Tryz.f78, a78, TP, TZ, orc_p, orc_l, orc_a, orc_m, e_laws_heldFindS_l2]
  try simp only [laws_heldFindS, evT, encs, c_js, r_map_some, e_need_t]
  all_goals rfl
theorem e_laws_heldMarkS_l2 (n : Nat) {R1} {a : List Mark} (k : Int) (i : Int) [H1 : EncL cMark R1 a] : LP T (n + 1) 170 2 (frm [(0, .imm 2 R1), (1, .i .i64 k), (5, .i .i64 i)]) [] =
    lmap (run (laws_heldMarkS_l2 a) (k, i)) (fun (zr : Int) => (XE.ret, frm [(4, .i .i64 zr)], [])) (fun (zr : Int) => (XE.exit 0, frm [(1, .i .i64 zr)], [])) := by
  obtain ⟨rfl⟩ := H1
  rw [LP_eq]
  simp -dsimp only [↓evA, evB, lpG_eq, Tryz.func170, Tryz.f170, a170, TP, TZ, Nat.reduceAdd, Nat.reduceMul, Nat.reduceBEq, Nat.reduceLeDiff, Nat.reduceLT]
  refine run_map (fun (zs : Int × Int) => (frm [(0, .imm 2 (a.map cMark)), (1, .i .i64 zs.1), (5, .i .i64 zs.2)], [])) (evO (fun (zr : Int) => (XE.ret, frm [(4, .i .i64 zr)], [])) (fun (zr : Int) => (XE.exit 0, frm [(1, .i .i64 zr)], []))) ?_ (k, i)
  rintro ⟨k, i⟩
  simp -dsimp +contextual only [↓evA, evB, evT, tys, encs, Nat.reduceAdd, Nat.reduceMul, Nat.reduceBEq, Nat.reduceLeDiff, Nat.reduceLT, TP, TZ, orc_p, orc_l, orc_a, orc_m]
  try simp only [laws_heldMarkS_l2, evT, encs, c_js, r_map_some, e_need_t]
  all_goals rfl
theorem e_laws_heldMarkS (n : Nat) {R1} {a : List Mark} (k : Int) [H1 : EncL cMark R1 a] : CP T (n + 2) 170 [.imm 2 R1, .i .i64 k] = (laws_heldMarkS a k).map fun r => .i .i64 r := by
  obtain ⟨rfl⟩ := H1
  rw [CP_eq]
  simp -dsimp +contextual only [↓evA, evB, evT, tys, encs, Nat.reduceAdd, Nat.reduceMul, Nat.reduceBEq, Nat.reduceLeDiff, Nat.reduceLT, Tryz.func170, Tryz.f170, a170, TP, TZ, orc_p, orc_l, orc_a, orc_m, e_laws_heldMarkS_l2]
  try simp only [laws_heldMarkS, evT, encs, c_js, r_map_some, e_need_t]
  all_goals rfl
theorem e_laws_heldSecretS_l2 (n : Nat) {R1} {a : List Secret} (k : Int) (i : Int) [H1 : EncL cSecret R1 a] : LP T (n + 3) 79 2 (frm [(0, .imm 3 R1), (1, .i .i64 k), (5, .i .i64 i)]) [] =
    lmap (run (laws_heldSecretS_l2 a) (k, i)) (fun (zr : Int) => (XE.ret, frm [(4, .i .i64 zr)], [])) (fun (zr : Int) => (XE.exit 0, frm [(1, .i .i64 zr)], [])) := by
  obtain ⟨rfl⟩ := H1
  rw [LP_eq]
  simp -dsimp only [↓evA, evB, lpG_eq, Tryz.func79, Tryz.f79, a79, TP, TZ, Nat.reduceAdd, Nat.reduceMul, Nat.reduceBEq, Nat.reduceLeDiff, Nat.reduceLT]
  refine run_map (fun (zs : Int × Int) => (frm [(0, .imm 3 (a.map cSecret)), (1, .i .i64 zs.1), (5, .i .i64 zs.2)], [])) (evO (fun (zr : Int) => (XE.ret, frm [(4, .i .i64 zr)], [])) (fun (zr : Int) => (XE.exit 0, frm [(1, .i .i64 zr)], []))) ?_ (k, i)
  rintro ⟨k, i⟩
  simp -dsimp +contextual only [↓evA, evB, evT, tys, encs, Nat.reduceAdd, Nat.reduceMul, Nat.reduceBEq, Nat.reduceLeDiff, Nat.reduceLT, TP, TZ, orc_p, orc_l, orc_a, orc_m, e_laws_heldMarkS]
  try simp only [laws_heldSecretS_l2, evT, encs, c_js, r_map_some, e_need_t]
  all_goals rfl
theorem e_laws_heldSecretS (n : Nat) {R1} {a : List Secret} (k : Int) [H1 : EncL cSecret R1 a] : CP T (n + 4) 79 [.imm 3 R1, .i .i64 k] = (laws_heldSecretS a k).map fun r => .i .i64 r := by
  obtain ⟨rfl⟩ := H1
  rw [CP_eq]
  simp -dsimp +contextual only [↓evA, evB, evT, tys, encs, Nat.reduceAdd, Nat.reduceMul, Nat.reduceBEq, Nat.reduceLeDiff, Nat.reduceLT, Tryz.func79, Tryz.f79, a79, TP, TZ, orc_p, orc_l, orc_a, orc_m, e_laws_heldSecretS_l2]
  try simp only [laws_heldSecretS, evT, encs, c_js, r_map_some, e_need_t]
  all_goals rfl
theorem e_laws_heldSlotS_l2 (n : Nat) {R1} {a : List Slot} (k : Int) (i : Int) [H1 : EncL cSlot R1 a] : LP T (n + 1) 80 2 (frm [(0, .imm 3 R1), (1, .i .i64 k), (5, .i .i64 i)]) [] =
    lmap (run (laws_heldSlotS_l2 a) (k, i)) (fun (zr : Int) => (XE.ret, frm [(4, .i .i64 zr)], [])) (fun (zr : Int) => (XE.exit 0, frm [(1, .i .i64 zr)], [])) := by
  obtain ⟨rfl⟩ := H1
  rw [LP_eq]
  simp -dsimp only [↓evA, evB, lpG_eq, Tryz.func80, Tryz.f80, a80, TP, TZ, Nat.reduceAdd, Nat.reduceMul, Nat.reduceBEq, Nat.reduceLeDiff, Nat.reduceLT]
  refine run_map (fun (zs : Int × Int) => (frm [(0, .imm 3 (a.map cSlot)), (1, .i .i64 zs.1), (5, .i .i64 zs.2)], [])) (evO (fun (zr : Int) => (XE.ret, frm [(4, .i .i64 zr)], [])) (fun (zr : Int) => (XE.exit 0, frm [(1, .i .i64 zr)], []))) ?_ (k, i)
  rintro ⟨k, i⟩
  simp -dsimp +contextual only [↓evA, evB, evT, tys, encs, Nat.reduceAdd, Nat.reduceMul, Nat.reduceBEq, Nat.reduceLeDiff, Nat.reduceLT, TP, TZ, orc_p, orc_l, orc_a, orc_m]
  try simp only [laws_heldSlotS_l2, evT, encs, c_js, r_map_some, e_need_t]
  all_goals rfl
theorem e_laws_heldSlotS (n : Nat) {R1} {a : List Slot} (k : Int) [H1 : EncL cSlot R1 a] : CP T (n + 2) 80 [.imm 3 R1, .i .i64 k] = (laws_heldSlotS a k).map fun r => .i .i64 r := by
  obtain ⟨rfl⟩ := H1
  rw [CP_eq]
  simp -dsimp +contextual only [↓evA, evB, evT, tys, encs, Nat.reduceAdd, Nat.reduceMul, Nat.reduceBEq, Nat.reduceLeDiff, Nat.reduceLT, Tryz.func80, Tryz.f80, a80, TP, TZ, orc_p, orc_l, orc_a, orc_m, e_laws_heldSlotS_l2]
  try simp only [laws_heldSlotS, evT, encs, c_js, r_map_some, e_need_t]
  all_goals rfl
theorem e_laws_heldClaimS_l2 (n : Nat) {R1} {a : List Claim} (k : Int) (i : Int) [H1 : EncL cClaim R1 a] : LP T (n + 1) 81 2 (frm [(0, .imm 5 R1), (1, .i .i64 k), (5, .i .i64 i)]) [] =
    lmap (run (laws_heldClaimS_l2 a) (k, i)) (fun (zr : Int) => (XE.ret, frm [(4, .i .i64 zr)], [])) (fun (zr : Int) => (XE.exit 0, frm [(1, .i .i64 zr)], [])) := by
  obtain ⟨rfl⟩ := H1
  rw [LP_eq]
  simp -dsimp only [↓evA, evB, lpG_eq, Tryz.func81, Tryz.f81, a81, TP, TZ, Nat.reduceAdd, Nat.reduceMul, Nat.reduceBEq, Nat.reduceLeDiff, Nat.reduceLT]
  refine run_map (fun (zs : Int × Int) => (frm [(0, .imm 5 (a.map cClaim)), (1, .i .i64 zs.1), (5, .i .i64 zs.2)], [])) (evO (fun (zr : Int) => (XE.ret, frm [(4, .i .i64 zr)], [])) (fun (zr : Int) => (XE.exit 0, frm [(1, .i .i64 zr)], []))) ?_ (k, i)
  rintro ⟨k, i⟩
  simp -dsimp +contextual only [↓evA, evB, evT, tys, encs, Nat.reduceAdd, Nat.reduceMul, Nat.reduceBEq, Nat.reduceLeDiff, Nat.reduceLT, TP, TZ, orc_p, orc_l, orc_a, orc_m]
  try simp only [laws_heldClaimS_l2, evT, encs, c_js, r_map_some, e_need_t]
  all_goals rfl
theorem e_laws_heldClaimS (n : Nat) {R1} {a : List Claim} (k : Int) [H1 : EncL cClaim R1 a] : CP T (n + 2) 81 [.imm 5 R1, .i .i64 k] = (laws_heldClaimS a k).map fun r => .i .i64 r := by
  obtain ⟨rfl⟩ := H1
  rw [CP_eq]
  simp -dsimp +contextual only [↓evA, evB, evT, tys, encs, Nat.reduceAdd, Nat.reduceMul, Nat.reduceBEq, Nat.reduceLeDiff, Nat.reduceLT, Tryz.func81, Tryz.f81, a81, TP, TZ, orc_p, orc_l, orc_a, orc_m, e_laws_heldClaimS_l2]
  try simp only [laws_heldClaimS, evT, encs, c_js, r_map_some, e_need_t]
  all_goals rfl
theorem e_laws_heldTrialS_l2 (n : Nat) {R1} {a : List Trial} (k : Int) (i : Int) [H1 : EncL cTrial R1 a] : LP T (n + 1) 82 2 (frm [(0, .imm 4 R1), (1, .i .i64 k), (5, .i .i64 i)]) [] =
    lmap (run (laws_heldTrialS_l2 a) (k, i)) (fun (zr : Int) => (XE.ret, frm [(4, .i .i64 zr)], [])) (fun (zr : Int) => (XE.exit 0, frm [(1, .i .i64 zr)], [])) := by
  obtain ⟨rfl⟩ := H1
  rw [LP_eq]
  simp -dsimp only [↓evA, evB, lpG_eq, Tryz.func82, Tryz.f82, a82, TP, TZ, Nat.reduceAdd, Nat.reduceMul, Nat.reduceBEq, Nat.reduceLeDiff, Nat.reduceLT]
  refine run_map (fun (zs : Int × Int) => (frm [(0, .imm 4 (a.map cTrial)), (1, .i .i64 zs.1), (5, .i .i64 zs.2)], [])) (evO (fun (zr : Int) => (XE.ret, frm [(4, .i .i64 zr)], [])) (fun (zr : Int) => (XE.exit 0, frm [(1, .i .i64 zr)], []))) ?_ (k, i)
  rintro ⟨k, i⟩
  simp -dsimp +contextual only [↓evA, evB, evT, tys, encs, Nat.reduceAdd, Nat.reduceMul, Nat.reduceBEq, Nat.reduceLeDiff, Nat.reduceLT, TP, TZ, orc_p, orc_l, orc_a, orc_m]
  try simp only [laws_heldTrialS_l2, evT, encs, c_js, r_map_some, e_need_t]
  all_goals rfl
theorem e_laws_heldTrialS (n : Nat) {R1} {a : List Trial} (k : Int) [H1 : EncL cTrial R1 a] : CP T (n + 2) 82 [.imm 4 R1, .i .i64 k] = (laws_heldTrialS a k).map fun r => .i .i64 r := by
  obtain ⟨rfl⟩ := H1
  rw [CP_eq]
  simp -dsimp +contextual only [↓evA, evB, evT, tys, encs, Nat.reduceAdd, Nat.reduceMul, Nat.reduceBEq, Nat.reduceLeDiff, Nat.reduceLT, Tryz.func82, Tryz.f82, a82, TP, TZ, orc_p, orc_l, orc_a, orc_m, e_laws_heldTrialS_l2]
  try simp only [laws_heldTrialS, evT, encs, c_js, r_map_some, e_need_t]
  all_goals rfl
theorem e_laws_heldHandS_l2 (n : Nat) {R1} {a : List Hand} (k : Int) (i : Int) [H1 : EncL cHand R1 a] : LP T (n + 1) 83 2 (frm [(0, .imm 5 R1), (1, .i .i64 k), (5, .i .i64 i)]) [] =
    lmap (run (laws_heldHandS_l2 a) (k, i)) (fun (zr : Int) => (XE.ret, frm [(4, .i .i64 zr)], [])) (fun (zr : Int) => (XE.exit 0, frm [(1, .i .i64 zr)], [])) := by
  obtain ⟨rfl⟩ := H1
  rw [LP_eq]
  simp -dsimp only [↓evA, evB, lpG_eq, Tryz.func83, Tryz.f83, a83, TP, TZ, Nat.reduceAdd, Nat.reduceMul, Nat.reduceBEq, Nat.reduceLeDiff, Nat.reduceLT]
  refine run_map (fun (zs : Int × Int) => (frm [(0, .imm 5 (a.map cHand)), (1, .i .i64 zs.1), (5, .i .i64 zs.2)], [])) (evO (fun (zr : Int) => (XE.ret, frm [(4, .i .i64 zr)], [])) (fun (zr : Int) => (XE.exit 0, frm [(1, .i .i64 zr)], []))) ?_ (k, i)
  rintro ⟨k, i⟩
  simp -dsimp +contextual only [↓evA, evB, evT, tys, encs, Nat.reduceAdd, Nat.reduceMul, Nat.reduceBEq, Nat.reduceLeDiff, Nat.reduceLT, TP, TZ, orc_p, orc_l, orc_a, orc_m]
  try simp only [laws_heldHandS_l2, evT, encs, c_js, r_map_some, e_need_t]
  all_goals rfl
theorem e_laws_heldHandS (n : Nat) {R1} {a : List Hand} (k : Int) [H1 : EncL cHand R1 a] : CP T (n + 2) 83 [.imm 5 R1, .i .i64 k] = (laws_heldHandS a k).map fun r => .i .i64 r := by
  obtain ⟨rfl⟩ := H1
  rw [CP_eq]
  simp -dsimp +contextual only [↓evA, evB, evT, tys, encs, Nat.reduceAdd, Nat.reduceMul, Nat.reduceBEq, Nat.reduceLeDiff, Nat.reduceLT, Tryz.func83, Tryz.f83, a83, TP, TZ, orc_p, orc_l, orc_a, orc_m, e_laws_heldHandS_l2]
  try simp only [laws_heldHandS, evT, encs, c_js, r_map_some, e_need_t]
  all_goals rfl
theorem e_laws_heldEntryS_l2 (n : Nat) {R1} {a : List Entry} (k : Int) (i : Int) [H1 : EncL cEntry R1 a] : LP T (n + 1) 84 2 (frm [(0, .imm 4 R1), (1, .i .i64 k), (5, .i .i64 i)]) [] =
    lmap (run (laws_heldEntryS_l2 a) (k, i)) (fun (zr : Int) => (XE.ret, frm [(4, .i .i64 zr)], [])) (fun (zr : Int) => (XE.exit 0, frm [(1, .i .i64 zr)], [])) := by
  obtain ⟨rfl⟩ := H1
  rw [LP_eq]
  simp -dsimp only [↓evA, evB, lpG_eq, Tryz.func84, Tryz.f84, a84, TP, TZ, Nat.reduceAdd, Nat.reduceMul, Nat.reduceBEq, Nat.reduceLeDiff, Nat.reduceLT]
  refine run_map (fun (zs : Int × Int) => (frm [(0, .imm 4 (a.map cEntry)), (1, .i .i64 zs.1), (5, .i .i64 zs.2)], [])) (evO (fun (zr : Int) => (XE.ret, frm [(4, .i .i64 zr)], [])) (fun (zr : Int) => (XE.exit 0, frm [(1, .i .i64 zr)], []))) ?_ (k, i)
  rintro ⟨k, i⟩
  simp -dsimp +contextual only [↓evA, evB, evT, tys, encs, Nat.reduceAdd, Nat.reduceMul, Nat.reduceBEq, Nat.reduceLeDiff, Nat.reduceLT, TP, TZ, orc_p, orc_l, orc_a, orc_m]
  try simp only [laws_heldEntryS_l2, evT, encs, c_js, r_map_some, e_need_t]
  all_goals rfl
theorem e_laws_heldEntryS (n : Nat) {R1} {a : List Entry} (k : Int) [H1 : EncL cEntry R1 a] : CP T (n + 2) 84 [.imm 4 R1, .i .i64 k] = (laws_heldEntryS a k).map fun r => .i .i64 r := by
  obtain ⟨rfl⟩ := H1
  rw [CP_eq]
  simp -dsimp +contextual only [↓evA, evB, evT, tys, encs, Nat.reduceAdd, Nat.reduceMul, Nat.reduceBEq, Nat.reduceLeDiff, Nat.reduceLT, Tryz.func84, Tryz.f84, a84, TP, TZ, orc_p, orc_l, orc_a, orc_m, e_laws_heldEntryS_l2]
  try simp only [laws_heldEntryS, evT, encs, c_js, r_map_some, e_need_t]
  all_goals rfl
theorem e_laws_heldHouse (n : Nat) (axNo : Int) {R1} {axFinds : List Find} {R2} {axSecrets : List Secret} {R3} {axSlots : List Slot} {R4} {axClaims : List Claim} {R5} {axTrials : List Trial} {R6} {axChain : List Hand} {R7} {axBook : List Entry} (axNow : Int) (k : Int) [H1 : EncL cFind R1 axFinds] [H2 : EncL cSecret R2 axSecrets] [H3 : EncL cSlot R3 axSlots] [H4 : EncL cClaim R4 axClaims] [H5 : EncL cTrial R5 axTrials] [H6 : EncL cHand R6 axChain] [H7 : EncL cEntry R7 axBook] : CP T (n + 5) 21 [.agg [.i .i64 axNo, .imm 8 R1, .imm 3 R2, .imm 3 R3, .imm 5 R4, .imm 4 R5, .imm 5 R6, .imm 4 R7, .i .i64 axNow], .i .i64 k] = (laws_heldHouse (⟨axNo, axFinds, axSecrets, axSlots, axClaims, axTrials, axChain, axBook, axNow⟩ : House) k).map fun r => .i .i64 r := by
  obtain ⟨rfl⟩ := H1
  obtain ⟨rfl⟩ := H2
  obtain ⟨rfl⟩ := H3
  obtain ⟨rfl⟩ := H4
  obtain ⟨rfl⟩ := H5
  obtain ⟨rfl⟩ := H6
  obtain ⟨rfl⟩ := H7
  rw [CP_eq]
  simp -dsimp +contextual only [↓evA, evB, evT, tys, encs, Nat.reduceAdd, Nat.reduceMul, Nat.reduceBEq, Nat.reduceLeDiff, Nat.reduceLT, Tryz.func21, Tryz.f21, a21, TP, TZ, orc_p, orc_l, orc_a, orc_m, e_laws_heldFindS, e_laws_heldSecretS, e_laws_heldSlotS, e_laws_heldClaimS, e_laws_heldTrialS, e_laws_heldHandS, e_laws_heldEntryS]
  try simp only [laws_heldHouse, evT, encs, c_js, r_map_some, e_need_t]
  all_goals rfl
theorem e_laws_FnExactNewHouse (n : Nat) (aNo : Int) {R1} {a : List Slot} [H1 : EncL cSlot R1 a] : CP T (n + 13) 3 [.i .i64 aNo, .imm 3 R1] = (laws_FnExactNewHouse aNo a).map fun r => .b r := by
  obtain ⟨rfl⟩ := H1
  rw [CP_eq]
  simp -dsimp +contextual only [↓evA, evB, evT, tys, encs, Nat.reduceAdd, Nat.reduceMul, Nat.reduceBEq, Nat.reduceLeDiff, Nat.reduceLT, Tryz.func3, Tryz.f3, a3, TP, TZ, orc_p, orc_l, orc_a, orc_m, srt, e_laws_szSlotS, e_laws_toSlotS, e_spec_NewHouse, e_impl_NewHouse, e_laws_eqHouse, e_laws_eqSlotS, e_laws_markSlotS, e_laws_markHouse, e_laws_heldHouse]
  try simp only [laws_FnExactNewHouse, evT, encs, c_js, r_map_some, e_need_t]
  all_goals rfl
end Go.Proofs.YtcdffihcfeajfaaGreat
