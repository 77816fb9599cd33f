/- The functions of the program come to the typed ones. No condition. -/
import Derived.Test.YtcdffihcfeajfaaGreatEq2
namespace Go.Proofs.YtcdffihcfeajfaaGreat
open Go Go.Proofs Go.Proofs.YtcdffihcfeajfaaGreat.Am
set_option maxHeartbeats 4000000
set_option linter.unusedVariables false
set_option linter.unusedSimpArgs false
set_option linter.defProp false
set_option maxRecDepth 100000
theorem e_slices_Contains_int (n : Nat) {R1} {s : List Int} (v : Int) [H1 : EncL c_i64 R1 s] : CP T (n + 3) 237 [.imm 1 R1, .i .i64 v] = (slices_Contains_int s v).map fun r => .b r := by
  obtain ⟨rfl⟩ := H1
  rw [CP_eq]
  simp -dsimp +contextual only [↓evA, eZ, Nat.reduceAdd, Nat.reduceMul, Nat.reduceBEq, Nat.reduceLeDiff, Nat.reduceLT, Tryz.func237, Tryz.f237, a237, e_slices_Index_int]
  try simp only [slices_Contains_int, eY]
  all_goals rfl
theorem e_impl_areKept_l5 (n : Nat) (t1xNo : Int) {R1} {t1xFinds : List Find} {R2} {t1xSecrets : List Secret} {R3} {t1xSlots : List Slot} {R4} {t1xClaims : List Claim} {R5} {t1xTrials : List Trial} {R6} {t1xChain : List Hand} {R7} {t1xBook : List Entry} (t1xNow : Int) {R8} {t3 : List Int} {R9} {t23 : List Find} (t24 : Int) (t25 : Int) [H1 : EncL cFind R1 t1xFinds] [H2 : EncL cSecret R2 t1xSecrets] [H3 : EncL cSlot R3 t1xSlots] [H4 : EncL cClaim R4 t1xClaims] [H5 : EncL cTrial R5 t1xTrials] [H6 : EncL cHand R6 t1xChain] [H7 : EncL cEntry R7 t1xBook] [H8 : EncL c_i64 R8 t3] [H9 : EncL cFind R9 t23] : LP T (n + 5) 162 5 (frm [(1, .ptr 0 0 0), (3, .sl 1), (23, .imm 8 R9), (24, .i .i64 t24), (25, .i .i64 t25)]) [some (Ent.box [.i .i64 t1xNo, .imm 8 R1, .imm 3 R2, .imm 3 R3, .imm 5 R4, .imm 4 R5, .imm 5 R6, .imm 4 R7, .i .i64 t1xNow]), some (Ent.lst 1 R8)] =
    lmap (run (impl_areKept_l5 (⟨t1xNo, t1xFinds, t1xSecrets, t1xSlots, t1xClaims, t1xTrials, t1xChain, t1xBook, t1xNow⟩ : House) t3 t23 t24) t25) (fun (zr : Bool) => (XE.ret, frm [(2, .b zr)], [])) (fun (zr : Unit) => (XE.exit 0, frm [(1, .ptr 0 0 0), (3, .sl 1)], [some (Ent.box [.i .i64 t1xNo, .imm 8 (t1xFinds.map cFind), .imm 3 (t1xSecrets.map cSecret), .imm 3 (t1xSlots.map cSlot), .imm 5 (t1xClaims.map cClaim), .imm 4 (t1xTrials.map cTrial), .imm 5 (t1xChain.map cHand), .imm 4 (t1xBook.map cEntry), .i .i64 t1xNow]), some (Ent.lst 1 (t3.map c_i64))])) := by
  rcases H1, H2, H3, H4, H5, H6, H7, H8, H9 with ⟨⟨rfl⟩, ⟨rfl⟩, ⟨rfl⟩, ⟨rfl⟩, ⟨rfl⟩, ⟨rfl⟩, ⟨rfl⟩, ⟨rfl⟩, ⟨rfl⟩⟩
  rw [LP_eq]
  simp -dsimp only [↓evA, evB, lpG_eq, Tryz.func162, Tryz.f162, a162, TP, TZ, Nat.reduceAdd, Nat.reduceMul, Nat.reduceBEq, Nat.reduceLeDiff, Nat.reduceLT]
  refine run_map (fun (zs : Int) => (frm [(1, .ptr 0 0 0), (3, .sl 1), (23, .imm 8 (t23.map cFind)), (24, .i .i64 t24), (25, .i .i64 zs)], [some (Ent.box [.i .i64 t1xNo, .imm 8 (t1xFinds.map cFind), .imm 3 (t1xSecrets.map cSecret), .imm 3 (t1xSlots.map cSlot), .imm 5 (t1xClaims.map cClaim), .imm 4 (t1xTrials.map cTrial), .imm 5 (t1xChain.map cHand), .imm 4 (t1xBook.map cEntry), .i .i64 t1xNow]), some (Ent.lst 1 (t3.map c_i64))])) (evO (fun (zr : Bool) => (XE.ret, frm [(2, .b zr)], [])) (fun (zr : Unit) => (XE.exit 0, frm [(1, .ptr 0 0 0), (3, .sl 1)], [some (Ent.box [.i .i64 t1xNo, .imm 8 (t1xFinds.map cFind), .imm 3 (t1xSecrets.map cSecret), .imm 3 (t1xSlots.map cSlot), .imm 5 (t1xClaims.map cClaim), .imm 4 (t1xTrials.map cTrial), .imm 5 (t1xChain.map cHand), .imm 4 (t1xBook.map cEntry), .i .i64 t1xNow]), some (Ent.lst 1 (t3.map c_i64))]))) ?_ t25
  intro t25
  simp -dsimp +contextual (maxSteps := 1000000) only [↓evA, eZ, Nat.reduceAdd, Nat.reduceMul, Nat.reduceBEq, Nat.reduceLeDiff, Nat.reduceLT, e_impl_slotWith, e_slices_Contains_int]
  try simp only [impl_areKept_l5, eY]
  all_goals rfl
theorem e_impl_areKept_l11 (n : Nat) (t1xNo : Int) {R1} {t1xFinds : List Find} {R2} {t1xSecrets : List Secret} {R3} {t1xSlots : List Slot} {R4} {t1xClaims : List Claim} {R5} {t1xTrials : List Trial} {R6} {t1xChain : List Hand} {R7} {t1xBook : List Entry} (t1xNow : Int) {R8} {t3 : List Int} {R9} {t57 : List Slot} (t58 : Int) (t59 : Int) [H1 : EncL cFind R1 t1xFinds] [H2 : EncL cSecret R2 t1xSecrets] [H3 : EncL cSlot R3 t1xSlots] [H4 : EncL cClaim R4 t1xClaims] [H5 : EncL cTrial R5 t1xTrials] [H6 : EncL cHand R6 t1xChain] [H7 : EncL cEntry R7 t1xBook] [H8 : EncL c_i64 R8 t3] [H9 : EncL cSlot R9 t57] : LP T (n + 5) 162 11 (frm [(1, .ptr 0 0 0), (3, .sl 1), (57, .imm 3 R9), (58, .i .i64 t58), (59, .i .i64 t59)]) [some (Ent.box [.i .i64 t1xNo, .imm 8 R1, .imm 3 R2, .imm 3 R3, .imm 5 R4, .imm 4 R5, .imm 5 R6, .imm 4 R7, .i .i64 t1xNow]), some (Ent.lst 1 R8)] =
    lmap (run (impl_areKept_l11 (⟨t1xNo, t1xFinds, t1xSecrets, t1xSlots, t1xClaims, t1xTrials, t1xChain, t1xBook, t1xNow⟩ : House) t3 t57 t58) t59) (fun (zr : Bool) => (XE.ret, frm [(2, .b zr)], [])) (fun (zr : Unit) => (XE.exit 2, frm [(1, .ptr 0 0 0), (3, .sl 1)], [some (Ent.box [.i .i64 t1xNo, .imm 8 (t1xFinds.map cFind), .imm 3 (t1xSecrets.map cSecret), .imm 3 (t1xSlots.map cSlot), .imm 5 (t1xClaims.map cClaim), .imm 4 (t1xTrials.map cTrial), .imm 5 (t1xChain.map cHand), .imm 4 (t1xBook.map cEntry), .i .i64 t1xNow]), some (Ent.lst 1 (t3.map c_i64))])) := by
  rcases H1, H2, H3, H4, H5, H6, H7, H8, H9 with ⟨⟨rfl⟩, ⟨rfl⟩, ⟨rfl⟩, ⟨rfl⟩, ⟨rfl⟩, ⟨rfl⟩, ⟨rfl⟩, ⟨rfl⟩, ⟨rfl⟩⟩
  rw [LP_eq]
  simp -dsimp only [↓evA, evB, lpG_eq, Tryz.func162, Tryz.f162, a162, TP, TZ, Nat.reduceAdd, Nat.reduceMul, Nat.reduceBEq, Nat.reduceLeDiff, Nat.reduceLT]
  refine run_map (fun (zs : Int) => (frm [(1, .ptr 0 0 0), (3, .sl 1), (57, .imm 3 (t57.map cSlot)), (58, .i .i64 t58), (59, .i .i64 zs)], [some (Ent.box [.i .i64 t1xNo, .imm 8 (t1xFinds.map cFind), .imm 3 (t1xSecrets.map cSecret), .imm 3 (t1xSlots.map cSlot), .imm 5 (t1xClaims.map cClaim), .imm 4 (t1xTrials.map cTrial), .imm 5 (t1xChain.map cHand), .imm 4 (t1xBook.map cEntry), .i .i64 t1xNow]), some (Ent.lst 1 (t3.map c_i64))])) (evO (fun (zr : Bool) => (XE.ret, frm [(2, .b zr)], [])) (fun (zr : Unit) => (XE.exit 2, frm [(1, .ptr 0 0 0), (3, .sl 1)], [some (Ent.box [.i .i64 t1xNo, .imm 8 (t1xFinds.map cFind), .imm 3 (t1xSecrets.map cSecret), .imm 3 (t1xSlots.map cSlot), .imm 5 (t1xClaims.map cClaim), .imm 4 (t1xTrials.map cTrial), .imm 5 (t1xChain.map cHand), .imm 4 (t1xBook.map cEntry), .i .i64 t1xNow]), some (Ent.lst 1 (t3.map c_i64))]))) ?_ t59
  intro t59
  simp -dsimp +contextual (maxSteps := 1000000) only [↓evA, eZ, Nat.reduceAdd, Nat.reduceMul, Nat.reduceBEq, Nat.reduceLeDiff, Nat.reduceLT, e_impl_FindThing]
  try simp only [impl_areKept_l11, eY]
  all_goals rfl
theorem e_impl_areKept_l17 (n : Nat) (t1xNo : Int) {R1} {t1xFinds : List Find} {R2} {t1xSecrets : List Secret} {R3} {t1xSlots : List Slot} {R4} {t1xClaims : List Claim} {R5} {t1xTrials : List Trial} {R6} {t1xChain : List Hand} {R7} {t1xBook : List Entry} (t1xNow : Int) {R8} {t75 : List Int} (t76 : Int) (t77 : Int) [H1 : EncL cFind R1 t1xFinds] [H2 : EncL cSecret R2 t1xSecrets] [H3 : EncL cSlot R3 t1xSlots] [H4 : EncL cClaim R4 t1xClaims] [H5 : EncL cTrial R5 t1xTrials] [H6 : EncL cHand R6 t1xChain] [H7 : EncL cEntry R7 t1xBook] [H8 : EncL c_i64 R8 t75] : LP T (n + 5) 162 17 (frm [(1, .ptr 0 0 0), (75, .sl 1), (76, .i .i64 t76), (77, .i .i64 t77)]) [some (Ent.box [.i .i64 t1xNo, .imm 8 R1, .imm 3 R2, .imm 3 R3, .imm 5 R4, .imm 4 R5, .imm 5 R6, .imm 4 R7, .i .i64 t1xNow]), some (Ent.lst 1 R8)] =
    lmap (run (impl_areKept_l17 (⟨t1xNo, t1xFinds, t1xSecrets, t1xSlots, t1xClaims, t1xTrials, t1xChain, t1xBook, t1xNow⟩ : House) t75 t76) t77) (fun (zr : Bool) => (XE.ret, frm [(2, .b zr)], [])) (fun (zr : Unit) => (XE.exit 4, frm [], [])) := by
  rcases H1, H2, H3, H4, H5, H6, H7, H8 with ⟨⟨rfl⟩, ⟨rfl⟩, ⟨rfl⟩, ⟨rfl⟩, ⟨rfl⟩, ⟨rfl⟩, ⟨rfl⟩, ⟨rfl⟩⟩
  rw [LP_eq]
  simp -dsimp only [↓evA, evB, lpG_eq, Tryz.func162, Tryz.f162, a162, TP, TZ, Nat.reduceAdd, Nat.reduceMul, Nat.reduceBEq, Nat.reduceLeDiff, Nat.reduceLT]
  refine run_map (fun (zs : Int) => (frm [(1, .ptr 0 0 0), (75, .sl 1), (76, .i .i64 t76), (77, .i .i64 zs)], [some (Ent.box [.i .i64 t1xNo, .imm 8 (t1xFinds.map cFind), .imm 3 (t1xSecrets.map cSecret), .imm 3 (t1xSlots.map cSlot), .imm 5 (t1xClaims.map cClaim), .imm 4 (t1xTrials.map cTrial), .imm 5 (t1xChain.map cHand), .imm 4 (t1xBook.map cEntry), .i .i64 t1xNow]), some (Ent.lst 1 (t75.map c_i64))])) (evO (fun (zr : Bool) => (XE.ret, frm [(2, .b zr)], [])) (fun (zr : Unit) => (XE.exit 4, frm [], []))) ?_ t77
  intro t77
  simp -dsimp +contextual (maxSteps := 1000000) only [↓evA, eZ, Nat.reduceAdd, Nat.reduceMul, Nat.reduceBEq, Nat.reduceLeDiff, Nat.reduceLT, e_impl_FindThing]
  try simp only [impl_areKept_l17, eY]
  all_goals rfl
theorem e_impl_areKept (n : Nat) (vhxNo : Int) {R1} {vhxFinds : List Find} {R2} {vhxSecrets : List Secret} {R3} {vhxSlots : List Slot} {R4} {vhxClaims : List Claim} {R5} {vhxTrials : List Trial} {R6} {vhxChain : List Hand} {R7} {vhxBook : List Entry} (vhxNow : Int) [H1 : EncL cFind R1 vhxFinds] [H2 : EncL cSecret R2 vhxSecrets] [H3 : EncL cSlot R3 vhxSlots] [H4 : EncL cClaim R4 vhxClaims] [H5 : EncL cTrial R5 vhxTrials] [H6 : EncL cHand R6 vhxChain] [H7 : EncL cEntry R7 vhxBook] : CP T (n + 10) 162 [.agg [.i .i64 vhxNo, .imm 8 R1, .imm 3 R2, .imm 3 R3, .imm 5 R4, .imm 4 R5, .imm 5 R6, .imm 4 R7, .i .i64 vhxNow]] = (impl_areKept (⟨vhxNo, vhxFinds, vhxSecrets, vhxSlots, vhxClaims, vhxTrials, vhxChain, vhxBook, vhxNow⟩ : House)).map fun r => .b r := by
  rcases H1, H2, H3, H4, H5, H6, H7 with ⟨⟨rfl⟩, ⟨rfl⟩, ⟨rfl⟩, ⟨rfl⟩, ⟨rfl⟩, ⟨rfl⟩, ⟨rfl⟩⟩
  rw [CP_eq]
  simp -dsimp +contextual (maxSteps := 1000000) only [↓evA, eZ, Nat.reduceAdd, Nat.reduceMul, Nat.reduceBEq, Nat.reduceLeDiff, Nat.reduceLT, Tryz.func162, Tryz.f162, a162, e_impl_InHouse, e_impl_areKept_l5, e_impl_areKept_l11, e_impl_areKept_l17]
  try simp only [impl_areKept, eY]
  all_goals rfl
theorem e_impl_IsTrial (n : Nat) (xxClaim : Int) (xxAsked : Int) (xxRight : Int) (xxWrong : Int) : CP T (n + 2) 196 [.agg [.i .i64 xxClaim, .i .i64 xxAsked, .i .i64 xxRight, .i .i64 xxWrong]] = (impl_IsTrial (⟨xxClaim, xxAsked, xxRight, xxWrong⟩ : Trial)).map fun r => .b r := by
  rw [CP_eq]
  simp -dsimp +contextual only [↓evA, eZ, Nat.reduceAdd, Nat.reduceMul, Nat.reduceBEq, Nat.reduceLeDiff, Nat.reduceLT, Tryz.func196, Tryz.f196, a196, e_impl_InRange]
  try simp only [impl_IsTrial, eY]
  all_goals rfl
theorem e_impl_secretOf_1 (n : Nat) (xxThing : Int) {R1} {xxMarks : List Mark} (xxSalt : Int) (c : Int) [H1 : EncL cMark R1 xxMarks] : CP T (n + 1) 242 [.agg [.i .i64 xxThing, .imm 2 R1, .i .i64 xxSalt], .iptr 1 [[.i .i64 c]] 0 0] = (impl_secretOf_1 (⟨xxThing, xxMarks, xxSalt⟩ : Secret) c).map fun r => .b r := by
  obtain ⟨rfl⟩ := H1
  rw [CP_eq]
  simp -dsimp +contextual only [↓evA, eZ, Nat.reduceAdd, Nat.reduceMul, Nat.reduceBEq, Nat.reduceLeDiff, Nat.reduceLT, Tryz.func242, Tryz.f242, a242]
  try simp only [impl_secretOf_1, eY]
  all_goals rfl
theorem e_slices_IndexFunc_Secret_cimpl_secretOf_1_l2 (n : Nat) {R1} {s : List Secret} (f : Int) (t7 : Int) (t8 : Int) [H1 : EncL cSecret R1 s] : LP T (n + 2) 241 2 (frm [(0, .imm 3 R1), (1, .clo 242 [.iptr 1 [[.i .i64 f]] 0 0]), (7, .i .i64 t7), (8, .i .i64 t8)]) [] =
    lmap (run (slices_IndexFunc_Secret_cimpl_secretOf_1_l2 s f t7) t8) (fun (zr : Int) => (XE.ret, frm [(4, .i .i64 zr)], [])) (fun (zr : Unit) => (XE.exit 0, frm [], [])) := by
  obtain ⟨rfl⟩ := H1
  rw [LP_eq]
  simp -dsimp only [↓evA, evB, lpG_eq, Tryz.func241, Tryz.f241, a241, TP, TZ, Nat.reduceAdd, Nat.reduceMul, Nat.reduceBEq, Nat.reduceLeDiff, Nat.reduceLT]
  refine run_map (fun (zs : Int) => (frm [(0, .imm 3 (s.map cSecret)), (1, .clo 242 [.iptr 1 [[.i .i64 f]] 0 0]), (7, .i .i64 t7), (8, .i .i64 zs)], [])) (evO (fun (zr : Int) => (XE.ret, frm [(4, .i .i64 zr)], [])) (fun (zr : Unit) => (XE.exit 0, frm [], []))) ?_ t8
  intro t8
  simp -dsimp +contextual only [↓evA, eZ, Nat.reduceAdd, Nat.reduceMul, Nat.reduceBEq, Nat.reduceLeDiff, Nat.reduceLT, e_impl_secretOf_1]
  try simp only [slices_IndexFunc_Secret_cimpl_secretOf_1_l2, eY]
  all_goals rfl
theorem e_slices_IndexFunc_Secret_cimpl_secretOf_1 (n : Nat) {R1} {s : List Secret} (c : Int) [H1 : EncL cSecret R1 s] : CP T (n + 3) 241 [.imm 3 R1, .clo 242 [.iptr 1 [[.i .i64 c]] 0 0]] = (slices_IndexFunc_Secret_cimpl_secretOf_1 s c).map fun r => .i .i64 r := by
  obtain ⟨rfl⟩ := H1
  rw [CP_eq]
  simp -dsimp +contextual only [↓evA, eZ, Nat.reduceAdd, Nat.reduceMul, Nat.reduceBEq, Nat.reduceLeDiff, Nat.reduceLT, Tryz.func241, Tryz.f241, a241, e_slices_IndexFunc_Secret_cimpl_secretOf_1_l2]
  try simp only [slices_IndexFunc_Secret_cimpl_secretOf_1, eY]
  all_goals rfl
theorem e_impl_secretOf (n : Nat) {R1} {l : List Secret} (thing : Int) [H1 : EncL cSecret R1 l] : CP T (n + 4) 192 [.imm 3 R1, .i .i64 thing] = (impl_secretOf l thing).map fun r => .i .i64 r := by
  obtain ⟨rfl⟩ := H1
  rw [CP_eq]
  simp -dsimp +contextual only [↓evA, eZ, Nat.reduceAdd, Nat.reduceMul, Nat.reduceBEq, Nat.reduceLeDiff, Nat.reduceLT, Tryz.func192, Tryz.f192, a192, e_slices_IndexFunc_Secret_cimpl_secretOf_1]
  try simp only [impl_secretOf, eY]
  all_goals rfl
theorem e_slices_Clone_Mark (n : Nat) {R1} {s : List Mark} [H1 : EncL cMark R1 s] : CP T (n + 1) 193 [.imm 2 R1] = (slices_Clone_Mark s).map fun r => .own 2 (r.map cMark) := by
  obtain ⟨rfl⟩ := H1
  rw [CP_eq]
  simp -dsimp +contextual only [↓evA, eZ, Nat.reduceAdd, Nat.reduceMul, Nat.reduceBEq, Nat.reduceLeDiff, Nat.reduceLT, Tryz.func193, Tryz.f193, a193]
  try simp only [slices_Clone_Mark, eY]
  all_goals first | rfl | (simp +contextual only [evN] <;> rfl)
theorem e_impl_MarksOf (n : Nat) {R1} {l : List Secret} (thing : Int) [H1 : EncL cSecret R1 l] : CP T (n + 5) 107 [.imm 3 R1, .i .i64 thing] = (impl_MarksOf l thing).map fun r => .own 2 (r.map cMark) := by
  obtain ⟨rfl⟩ := H1
  rw [CP_eq]
  simp -dsimp +contextual only [↓evA, eZ, Nat.reduceAdd, Nat.reduceMul, Nat.reduceBEq, Nat.reduceLeDiff, Nat.reduceLT, Tryz.func107, Tryz.f107, a107, e_impl_secretOf, e_slices_Clone_Mark]
  try simp only [impl_MarksOf, eY]
  all_goals first | rfl | (simp +contextual only [evN] <;> rfl)
theorem e_impl_NeedFor (n : Nat) {R1} {l : List Mark} [H1 : EncL cMark R1 l] : CP T (n + 1) 198 [.imm 2 R1] = (impl_NeedFor l).map fun r => .i .i64 r := by
  obtain ⟨rfl⟩ := H1
  rw [CP_eq]
  simp -dsimp +contextual only [↓evA, eZ, Nat.reduceAdd, Nat.reduceMul, Nat.reduceBEq, Nat.reduceLeDiff, Nat.reduceLT, Tryz.func198, Tryz.f198, a198]
  try simp only [impl_NeedFor, eY]
  all_goals rfl
theorem e_impl_TrialState (n : Nat) {R1} {l : List Mark} (xxClaim : Int) (xxAsked : Int) (xxRight : Int) (xxWrong : Int) [H1 : EncL cMark R1 l] : CP T (n + 4) 109 [.imm 2 R1, .agg [.i .i64 xxClaim, .i .i64 xxAsked, .i .i64 xxRight, .i .i64 xxWrong]] = (impl_TrialState l (⟨xxClaim, xxAsked, xxRight, xxWrong⟩ : Trial)).map fun r => .i .i64 r := by
  obtain ⟨rfl⟩ := H1
  rw [CP_eq]
  simp -dsimp +contextual only [↓evA, eZ, Nat.reduceAdd, Nat.reduceMul, Nat.reduceBEq, Nat.reduceLeDiff, Nat.reduceLT, Tryz.func109, Tryz.f109, a109, e_impl_IsTrial, e_impl_AreMarks, e_impl_NeedFor]
  try simp only [impl_TrialState, eY]
  all_goals rfl
theorem e_impl_wanted (n : Nat) (state : Int) : CP T (n + 1) 238 [.i .i64 state] = (impl_wanted state).map fun r => .i .i64 r := by
  rw [CP_eq]
  simp -dsimp +contextual only [↓evA, eZ, Nat.reduceAdd, Nat.reduceMul, Nat.reduceBEq, Nat.reduceLeDiff, Nat.reduceLT, Tryz.func238, Tryz.f238, a238]
  try simp only [impl_wanted, eY]
  all_goals rfl
theorem e_impl_areTrials_l4 (n : Nat) (vhxNo : Int) {R1} {vhxFinds : List Find} {R2} {vhxSecrets : List Secret} {R3} {vhxSlots : List Slot} {R4} {vhxClaims : List Claim} {R5} {vhxTrials : List Trial} {R6} {vhxChain : List Hand} {R7} {vhxBook : List Entry} (vhxNow : Int) {R8} {t14 : List Claim} (t15 : Int) (t16 : Int) [H1 : EncL cFind R1 vhxFinds] [H2 : EncL cSecret R2 vhxSecrets] [H3 : EncL cSlot R3 vhxSlots] [H4 : EncL cClaim R4 vhxClaims] [H5 : EncL cTrial R5 vhxTrials] [H6 : EncL cHand R6 vhxChain] [H7 : EncL cEntry R7 vhxBook] [H8 : EncL cClaim R8 t14] : LP T (n + 6) 163 4 (frm [(1, .ptr 0 0 0), (14, .imm 5 R8), (15, .i .i64 t15), (16, .i .i64 t16)]) [some (Ent.box [.i .i64 vhxNo, .imm 8 R1, .imm 3 R2, .imm 3 R3, .imm 5 R4, .imm 4 R5, .imm 5 R6, .imm 4 R7, .i .i64 vhxNow])] =
    lmap (run (impl_areTrials_l4 (⟨vhxNo, vhxFinds, vhxSecrets, vhxSlots, vhxClaims, vhxTrials, vhxChain, vhxBook, vhxNow⟩ : House) t14 t15) t16) (fun (zr : Bool) => (XE.ret, frm [(2, .b zr)], [])) (fun (zr : Unit) => (XE.exit 0, frm [], [])) := by
  rcases H1, H2, H3, H4, H5, H6, H7, H8 with ⟨⟨rfl⟩, ⟨rfl⟩, ⟨rfl⟩, ⟨rfl⟩, ⟨rfl⟩, ⟨rfl⟩, ⟨rfl⟩, ⟨rfl⟩⟩
  rw [LP_eq]
  simp -dsimp only [↓evA, evB, lpG_eq, Tryz.func163, Tryz.f163, a163, TP, TZ, Nat.reduceAdd, Nat.reduceMul, Nat.reduceBEq, Nat.reduceLeDiff, Nat.reduceLT]
  refine run_map (fun (zs : Int) => (frm [(1, .ptr 0 0 0), (14, .imm 5 (t14.map cClaim)), (15, .i .i64 t15), (16, .i .i64 zs)], [some (Ent.box [.i .i64 vhxNo, .imm 8 (vhxFinds.map cFind), .imm 3 (vhxSecrets.map cSecret), .imm 3 (vhxSlots.map cSlot), .imm 5 (vhxClaims.map cClaim), .imm 4 (vhxTrials.map cTrial), .imm 5 (vhxChain.map cHand), .imm 4 (vhxBook.map cEntry), .i .i64 vhxNow])])) (evO (fun (zr : Bool) => (XE.ret, frm [(2, .b zr)], [])) (fun (zr : Unit) => (XE.exit 0, frm [], []))) ?_ t16
  intro t16
  simp -dsimp +contextual (maxSteps := 1000000) only [↓evA, eZ, Nat.reduceAdd, Nat.reduceMul, Nat.reduceBEq, Nat.reduceLeDiff, Nat.reduceLT, e_impl_FindThing, e_impl_IsTrial, e_impl_MarksOf, e_impl_TrialState, e_impl_wanted]
  try simp only [impl_areTrials_l4, eY]
  all_goals rfl
theorem e_impl_areTrials (n : Nat) (vhxNo : Int) {R1} {vhxFinds : List Find} {R2} {vhxSecrets : List Secret} {R3} {vhxSlots : List Slot} {R4} {vhxClaims : List Claim} {R5} {vhxTrials : List Trial} {R6} {vhxChain : List Hand} {R7} {vhxBook : List Entry} (vhxNow : Int) [H1 : EncL cFind R1 vhxFinds] [H2 : EncL cSecret R2 vhxSecrets] [H3 : EncL cSlot R3 vhxSlots] [H4 : EncL cClaim R4 vhxClaims] [H5 : EncL cTrial R5 vhxTrials] [H6 : EncL cHand R6 vhxChain] [H7 : EncL cEntry R7 vhxBook] : CP T (n + 7) 163 [.agg [.i .i64 vhxNo, .imm 8 R1, .imm 3 R2, .imm 3 R3, .imm 5 R4, .imm 4 R5, .imm 5 R6, .imm 4 R7, .i .i64 vhxNow]] = (impl_areTrials (⟨vhxNo, vhxFinds, vhxSecrets, vhxSlots, vhxClaims, vhxTrials, vhxChain, vhxBook, vhxNow⟩ : House)).map fun r => .b r := by
  rcases H1, H2, H3, H4, H5, H6, H7 with ⟨⟨rfl⟩, ⟨rfl⟩, ⟨rfl⟩, ⟨rfl⟩, ⟨rfl⟩, ⟨rfl⟩, ⟨rfl⟩⟩
  rw [CP_eq]
  simp -dsimp +contextual (maxSteps := 1000000) only [↓evA, eZ, Nat.reduceAdd, Nat.reduceMul, Nat.reduceBEq, Nat.reduceLeDiff, Nat.reduceLT, Tryz.func163, Tryz.f163, a163, e_impl_areTrials_l4]
  try simp only [impl_areTrials, eY]
  all_goals rfl
theorem e_impl_latest_l3 (n : Nat) (vhxNo : Int) {R1} {vhxFinds : List Find} {R2} {vhxSecrets : List Secret} {R3} {vhxSlots : List Slot} {R4} {vhxClaims : List Claim} {R5} {vhxTrials : List Trial} {R6} {vhxChain : List Hand} {R7} {vhxBook : List Entry} (vhxNow : Int) (vat : Int) {R8} {t13 : List Find} (t14 : Int) (t15 : Int) [H1 : EncL cFind R1 vhxFinds] [H2 : EncL cSecret R2 vhxSecrets] [H3 : EncL cSlot R3 vhxSlots] [H4 : EncL cClaim R4 vhxClaims] [H5 : EncL cTrial R5 vhxTrials] [H6 : EncL cHand R6 vhxChain] [H7 : EncL cEntry R7 vhxBook] [H8 : EncL cFind R8 t13] : LP T (n + 1) 164 3 (frm [(1, .ptr 0 0 0), (3, .i .i64 vat), (13, .imm 8 R8), (14, .i .i64 t14), (15, .i .i64 t15)]) [some (Ent.box [.i .i64 vhxNo, .imm 8 R1, .imm 3 R2, .imm 3 R3, .imm 5 R4, .imm 4 R5, .imm 5 R6, .imm 4 R7, .i .i64 vhxNow])] =
    (run (impl_latest_l3 (⟨vhxNo, vhxFinds, vhxSecrets, vhxSlots, vhxClaims, vhxTrials, vhxChain, vhxBook, vhxNow⟩ : House) t13 t14) (vat, t15)).map (fun (zr : Int) => (XE.exit 0, frm [(1, .ptr 0 0 0), (3, .i .i64 zr)], [some (Ent.box [.i .i64 vhxNo, .imm 8 (vhxFinds.map cFind), .imm 3 (vhxSecrets.map cSecret), .imm 3 (vhxSlots.map cSlot), .imm 5 (vhxClaims.map cClaim), .imm 4 (vhxTrials.map cTrial), .imm 5 (vhxChain.map cHand), .imm 4 (vhxBook.map cEntry), .i .i64 vhxNow])])) := by
  rcases H1, H2, H3, H4, H5, H6, H7, H8 with ⟨⟨rfl⟩, ⟨rfl⟩, ⟨rfl⟩, ⟨rfl⟩, ⟨rfl⟩, ⟨rfl⟩, ⟨rfl⟩, ⟨rfl⟩⟩
  rw [LP_eq]
  simp -dsimp only [↓evA, evB, lpG_eq, Tryz.func164, Tryz.f164, a164, TP, TZ, Nat.reduceAdd, Nat.reduceMul, Nat.reduceBEq, Nat.reduceLeDiff, Nat.reduceLT]
  refine run_map (fun (zs : Int × Int) => (frm [(1, .ptr 0 0 0), (3, .i .i64 zs.1), (13, .imm 8 (t13.map cFind)), (14, .i .i64 t14), (15, .i .i64 zs.2)], [some (Ent.box [.i .i64 vhxNo, .imm 8 (vhxFinds.map cFind), .imm 3 (vhxSecrets.map cSecret), .imm 3 (vhxSlots.map cSlot), .imm 5 (vhxClaims.map cClaim), .imm 4 (vhxTrials.map cTrial), .imm 5 (vhxChain.map cHand), .imm 4 (vhxBook.map cEntry), .i .i64 vhxNow])])) (fun (zr : Int) => (XE.exit 0, frm [(1, .ptr 0 0 0), (3, .i .i64 zr)], [some (Ent.box [.i .i64 vhxNo, .imm 8 (vhxFinds.map cFind), .imm 3 (vhxSecrets.map cSecret), .imm 3 (vhxSlots.map cSlot), .imm 5 (vhxClaims.map cClaim), .imm 4 (vhxTrials.map cTrial), .imm 5 (vhxChain.map cHand), .imm 4 (vhxBook.map cEntry), .i .i64 vhxNow])])) ?_ (vat, t15)
  rintro ⟨vat, t15⟩
  simp -dsimp +contextual (maxSteps := 1000000) only [↓evA, eZ, Nat.reduceAdd, Nat.reduceMul, Nat.reduceBEq, Nat.reduceLeDiff, Nat.reduceLT]
  try simp only [impl_latest_l3, eY]
  all_goals rfl
theorem e_impl_latest_l8 (n : Nat) (vhxNo : Int) {R1} {vhxFinds : List Find} {R2} {vhxSecrets : List Secret} {R3} {vhxSlots : List Slot} {R4} {vhxClaims : List Claim} {R5} {vhxTrials : List Trial} {R6} {vhxChain : List Hand} {R7} {vhxBook : List Entry} (vhxNow : Int) (vat : Int) {R8} {t25 : List Claim} (t26 : Int) (t27 : Int) [H1 : EncL cFind R1 vhxFinds] [H2 : EncL cSecret R2 vhxSecrets] [H3 : EncL cSlot R3 vhxSlots] [H4 : EncL cClaim R4 vhxClaims] [H5 : EncL cTrial R5 vhxTrials] [H6 : EncL cHand R6 vhxChain] [H7 : EncL cEntry R7 vhxBook] [H8 : EncL cClaim R8 t25] : LP T (n + 1) 164 8 (frm [(1, .ptr 0 0 0), (3, .i .i64 vat), (25, .imm 5 R8), (26, .i .i64 t26), (27, .i .i64 t27)]) [some (Ent.box [.i .i64 vhxNo, .imm 8 R1, .imm 3 R2, .imm 3 R3, .imm 5 R4, .imm 4 R5, .imm 5 R6, .imm 4 R7, .i .i64 vhxNow])] =
    (run (impl_latest_l8 (⟨vhxNo, vhxFinds, vhxSecrets, vhxSlots, vhxClaims, vhxTrials, vhxChain, vhxBook, vhxNow⟩ : House) t25 t26) (vat, t27)).map (fun (zr : Int) => (XE.exit 2, frm [(1, .ptr 0 0 0), (3, .i .i64 zr)], [some (Ent.box [.i .i64 vhxNo, .imm 8 (vhxFinds.map cFind), .imm 3 (vhxSecrets.map cSecret), .imm 3 (vhxSlots.map cSlot), .imm 5 (vhxClaims.map cClaim), .imm 4 (vhxTrials.map cTrial), .imm 5 (vhxChain.map cHand), .imm 4 (vhxBook.map cEntry), .i .i64 vhxNow])])) := by
  rcases H1, H2, H3, H4, H5, H6, H7, H8 with ⟨⟨rfl⟩, ⟨rfl⟩, ⟨rfl⟩, ⟨rfl⟩, ⟨rfl⟩, ⟨rfl⟩, ⟨rfl⟩, ⟨rfl⟩⟩
  rw [LP_eq]
  simp -dsimp only [↓evA, evB, lpG_eq, Tryz.func164, Tryz.f164, a164, TP, TZ, Nat.reduceAdd, Nat.reduceMul, Nat.reduceBEq, Nat.reduceLeDiff, Nat.reduceLT]
  refine run_map (fun (zs : Int × Int) => (frm [(1, .ptr 0 0 0), (3, .i .i64 zs.1), (25, .imm 5 (t25.map cClaim)), (26, .i .i64 t26), (27, .i .i64 zs.2)], [some (Ent.box [.i .i64 vhxNo, .imm 8 (vhxFinds.map cFind), .imm 3 (vhxSecrets.map cSecret), .imm 3 (vhxSlots.map cSlot), .imm 5 (vhxClaims.map cClaim), .imm 4 (vhxTrials.map cTrial), .imm 5 (vhxChain.map cHand), .imm 4 (vhxBook.map cEntry), .i .i64 vhxNow])])) (fun (zr : Int) => (XE.exit 2, frm [(1, .ptr 0 0 0), (3, .i .i64 zr)], [some (Ent.box [.i .i64 vhxNo, .imm 8 (vhxFinds.map cFind), .imm 3 (vhxSecrets.map cSecret), .imm 3 (vhxSlots.map cSlot), .imm 5 (vhxClaims.map cClaim), .imm 4 (vhxTrials.map cTrial), .imm 5 (vhxChain.map cHand), .imm 4 (vhxBook.map cEntry), .i .i64 vhxNow])])) ?_ (vat, t27)
  rintro ⟨vat, t27⟩
  simp -dsimp +contextual (maxSteps := 1000000) only [↓evA, eZ, Nat.reduceAdd, Nat.reduceMul, Nat.reduceBEq, Nat.reduceLeDiff, Nat.reduceLT]
  try simp only [impl_latest_l8, eY]
  all_goals rfl
theorem e_impl_latest_l13 (n : Nat) (vhxNo : Int) {R1} {vhxFinds : List Find} {R2} {vhxSecrets : List Secret} {R3} {vhxSlots : List Slot} {R4} {vhxClaims : List Claim} {R5} {vhxTrials : List Trial} {R6} {vhxChain : List Hand} {R7} {vhxBook : List Entry} (vhxNow : Int) (vat : Int) {R8} {t37 : List Hand} (t38 : Int) (t39 : Int) [H1 : EncL cFind R1 vhxFinds] [H2 : EncL cSecret R2 vhxSecrets] [H3 : EncL cSlot R3 vhxSlots] [H4 : EncL cClaim R4 vhxClaims] [H5 : EncL cTrial R5 vhxTrials] [H6 : EncL cHand R6 vhxChain] [H7 : EncL cEntry R7 vhxBook] [H8 : EncL cHand R8 t37] : LP T (n + 1) 164 13 (frm [(1, .ptr 0 0 0), (3, .i .i64 vat), (37, .imm 5 R8), (38, .i .i64 t38), (39, .i .i64 t39)]) [some (Ent.box [.i .i64 vhxNo, .imm 8 R1, .imm 3 R2, .imm 3 R3, .imm 5 R4, .imm 4 R5, .imm 5 R6, .imm 4 R7, .i .i64 vhxNow])] =
    (run (impl_latest_l13 (⟨vhxNo, vhxFinds, vhxSecrets, vhxSlots, vhxClaims, vhxTrials, vhxChain, vhxBook, vhxNow⟩ : House) t37 t38) (vat, t39)).map (fun (zr : Int) => (XE.exit 4, frm [(1, .ptr 0 0 0), (3, .i .i64 zr)], [some (Ent.box [.i .i64 vhxNo, .imm 8 (vhxFinds.map cFind), .imm 3 (vhxSecrets.map cSecret), .imm 3 (vhxSlots.map cSlot), .imm 5 (vhxClaims.map cClaim), .imm 4 (vhxTrials.map cTrial), .imm 5 (vhxChain.map cHand), .imm 4 (vhxBook.map cEntry), .i .i64 vhxNow])])) := by
  rcases H1, H2, H3, H4, H5, H6, H7, H8 with ⟨⟨rfl⟩, ⟨rfl⟩, ⟨rfl⟩, ⟨rfl⟩, ⟨rfl⟩, ⟨rfl⟩, ⟨rfl⟩, ⟨rfl⟩⟩
  rw [LP_eq]
  simp -dsimp only [↓evA, evB, lpG_eq, Tryz.func164, Tryz.f164, a164, TP, TZ, Nat.reduceAdd, Nat.reduceMul, Nat.reduceBEq, Nat.reduceLeDiff, Nat.reduceLT]
  refine run_map (fun (zs : Int × Int) => (frm [(1, .ptr 0 0 0), (3, .i .i64 zs.1), (37, .imm 5 (t37.map cHand)), (38, .i .i64 t38), (39, .i .i64 zs.2)], [some (Ent.box [.i .i64 vhxNo, .imm 8 (vhxFinds.map cFind), .imm 3 (vhxSecrets.map cSecret), .imm 3 (vhxSlots.map cSlot), .imm 5 (vhxClaims.map cClaim), .imm 4 (vhxTrials.map cTrial), .imm 5 (vhxChain.map cHand), .imm 4 (vhxBook.map cEntry), .i .i64 vhxNow])])) (fun (zr : Int) => (XE.exit 4, frm [(1, .ptr 0 0 0), (3, .i .i64 zr)], [some (Ent.box [.i .i64 vhxNo, .imm 8 (vhxFinds.map cFind), .imm 3 (vhxSecrets.map cSecret), .imm 3 (vhxSlots.map cSlot), .imm 5 (vhxClaims.map cClaim), .imm 4 (vhxTrials.map cTrial), .imm 5 (vhxChain.map cHand), .imm 4 (vhxBook.map cEntry), .i .i64 vhxNow])])) ?_ (vat, t39)
  rintro ⟨vat, t39⟩
  simp -dsimp +contextual (maxSteps := 1000000) only [↓evA, eZ, Nat.reduceAdd, Nat.reduceMul, Nat.reduceBEq, Nat.reduceLeDiff, Nat.reduceLT]
  try simp only [impl_latest_l13, eY]
  all_goals rfl
theorem e_impl_latest_l18 (n : Nat) (vat : Int) {R1} {t49 : List Entry} (t50 : Int) (t51 : Int) [H1 : EncL cEntry R1 t49] : LP T (n + 1) 164 18 (frm [(3, .i .i64 vat), (49, .imm 4 R1), (50, .i .i64 t50), (51, .i .i64 t51)]) [] =
    (run (impl_latest_l18 t49 t50) (vat, t51)).map (fun (zr : Int) => (XE.exit 6, frm [(3, .i .i64 zr)], [])) := by
  obtain ⟨rfl⟩ := H1
  rw [LP_eq]
  simp -dsimp only [↓evA, evB, lpG_eq, Tryz.func164, Tryz.f164, a164, TP, TZ, Nat.reduceAdd, Nat.reduceMul, Nat.reduceBEq, Nat.reduceLeDiff, Nat.reduceLT]
  refine run_map (fun (zs : Int × Int) => (frm [(3, .i .i64 zs.1), (49, .imm 4 (t49.map cEntry)), (50, .i .i64 t50), (51, .i .i64 zs.2)], [])) (fun (zr : Int) => (XE.exit 6, frm [(3, .i .i64 zr)], [])) ?_ (vat, t51)
  rintro ⟨vat, t51⟩
  simp -dsimp +contextual only [↓evA, eZ, Nat.reduceAdd, Nat.reduceMul, Nat.reduceBEq, Nat.reduceLeDiff, Nat.reduceLT]
  try simp only [impl_latest_l18, eY]
  all_goals rfl
theorem e_impl_latest (n : Nat) (vhxNo : Int) {R1} {vhxFinds : List Find} {R2} {vhxSecrets : List Secret} {R3} {vhxSlots : List Slot} {R4} {vhxClaims : List Claim} {R5} {vhxTrials : List Trial} {R6} {vhxChain : List Hand} {R7} {vhxBook : List Entry} (vhxNow : Int) [H1 : EncL cFind R1 vhxFinds] [H2 : EncL cSecret R2 vhxSecrets] [H3 : EncL cSlot R3 vhxSlots] [H4 : EncL cClaim R4 vhxClaims] [H5 : EncL cTrial R5 vhxTrials] [H6 : EncL cHand R6 vhxChain] [H7 : EncL cEntry R7 vhxBook] : CP T (n + 2) 164 [.agg [.i .i64 vhxNo, .imm 8 R1, .imm 3 R2, .imm 3 R3, .imm 5 R4, .imm 4 R5, .imm 5 R6, .imm 4 R7, .i .i64 vhxNow]] = (impl_latest (⟨vhxNo, vhxFinds, vhxSecrets, vhxSlots, vhxClaims, vhxTrials, vhxChain, vhxBook, vhxNow⟩ : House)).map fun r => .i .i64 r := by
  rcases H1, H2, H3, H4, H5, H6, H7 with ⟨⟨rfl⟩, ⟨rfl⟩, ⟨rfl⟩, ⟨rfl⟩, ⟨rfl⟩, ⟨rfl⟩, ⟨rfl⟩⟩
  rw [CP_eq]
  simp -dsimp +contextual (maxSteps := 1000000) only [↓evA, eZ, Nat.reduceAdd, Nat.reduceMul, Nat.reduceBEq, Nat.reduceLeDiff, Nat.reduceLT, Tryz.func164, Tryz.f164, a164, e_impl_latest_l3, e_impl_latest_l8, e_impl_latest_l13, e_impl_latest_l18]
  try simp only [impl_latest, eY]
  all_goals rfl
theorem e_impl_IsHouse (n : Nat) (vhxNo : Int) {R1} {vhxFinds : List Find} {R2} {vhxSecrets : List Secret} {R3} {vhxSlots : List Slot} {R4} {vhxClaims : List Claim} {R5} {vhxTrials : List Trial} {R6} {vhxChain : List Hand} {R7} {vhxBook : List Entry} (vhxNow : Int) [H1 : EncL cFind R1 vhxFinds] [H2 : EncL cSecret R2 vhxSecrets] [H3 : EncL cSlot R3 vhxSlots] [H4 : EncL cClaim R4 vhxClaims] [H5 : EncL cTrial R5 vhxTrials] [H6 : EncL cHand R6 vhxChain] [H7 : EncL cEntry R7 vhxBook] : CP T (n + 11) 64 [.agg [.i .i64 vhxNo, .imm 8 R1, .imm 3 R2, .imm 3 R3, .imm 5 R4, .imm 4 R5, .imm 5 R6, .imm 4 R7, .i .i64 vhxNow]] = (impl_IsHouse (⟨vhxNo, vhxFinds, vhxSecrets, vhxSlots, vhxClaims, vhxTrials, vhxChain, vhxBook, vhxNow⟩ : House)).map fun r => .b r := by
  rcases H1, H2, H3, H4, H5, H6, H7 with ⟨⟨rfl⟩, ⟨rfl⟩, ⟨rfl⟩, ⟨rfl⟩, ⟨rfl⟩, ⟨rfl⟩, ⟨rfl⟩⟩
  rw [CP_eq]
  simp -dsimp +contextual (maxSteps := 1000000) only [↓evA, eZ, Nat.reduceAdd, Nat.reduceMul, Nat.reduceBEq, Nat.reduceLeDiff, Nat.reduceLT, Tryz.func64, Tryz.f64, a64, e_impl_InRange, e_impl_AreFinds, e_impl_AreSecrets, e_impl_AreSlots, e_impl_AreClaims, e_impl_IsChain, e_impl_AreEntries, e_impl_areKept, e_impl_areTrials, e_impl_latest]
  try simp only [impl_IsHouse, eY]
  all_goals rfl
theorem e_impl_findIn (n : Nat) (vhxNo : Int) {R1} {vhxFinds : List Find} {R2} {vhxSecrets : List Secret} {R3} {vhxSlots : List Slot} {R4} {vhxClaims : List Claim} {R5} {vhxTrials : List Trial} {R6} {vhxChain : List Hand} {R7} {vhxBook : List Entry} (vhxNow : Int) (thing : Int) [H1 : EncL cFind R1 vhxFinds] [H2 : EncL cSecret R2 vhxSecrets] [H3 : EncL cSlot R3 vhxSlots] [H4 : EncL cClaim R4 vhxClaims] [H5 : EncL cTrial R5 vhxTrials] [H6 : EncL cHand R6 vhxChain] [H7 : EncL cEntry R7 vhxBook] : CP T (n + 12) 122 [.agg [.i .i64 vhxNo, .imm 8 R1, .imm 3 R2, .imm 3 R3, .imm 5 R4, .imm 4 R5, .imm 5 R6, .imm 4 R7, .i .i64 vhxNow], .i .i64 thing] = (impl_findIn (⟨vhxNo, vhxFinds, vhxSecrets, vhxSlots, vhxClaims, vhxTrials, vhxChain, vhxBook, vhxNow⟩ : House) thing).map fun r => .tup [.agg (cFind r.1), .b r.2] := by
  rcases H1, H2, H3, H4, H5, H6, H7 with ⟨⟨rfl⟩, ⟨rfl⟩, ⟨rfl⟩, ⟨rfl⟩, ⟨rfl⟩, ⟨rfl⟩, ⟨rfl⟩⟩
  rw [CP_eq]
  simp -dsimp +contextual (maxSteps := 1000000) only [↓evA, eZ, Nat.reduceAdd, Nat.reduceMul, Nat.reduceBEq, Nat.reduceLeDiff, Nat.reduceLT, Tryz.func122, Tryz.f122, a122, e_impl_FindThing, e_impl_IsHouse, e_impl_slotWith]
  try simp only [impl_findIn, eY]
  all_goals rfl
theorem e_slices_Clone_Find (n : Nat) {R1} {s : List Find} [H1 : EncL cFind R1 s] : CP T (n + 1) 177 [.imm 8 R1] = (slices_Clone_Find s).map fun r => .own 8 (r.map cFind) := by
  obtain ⟨rfl⟩ := H1
  rw [CP_eq]
  simp -dsimp +contextual only [↓evA, eZ, Nat.reduceAdd, Nat.reduceMul, Nat.reduceBEq, Nat.reduceLeDiff, Nat.reduceLT, Tryz.func177, Tryz.f177, a177]
  try simp only [slices_Clone_Find, eY]
  all_goals first | rfl | (simp +contextual only [evN] <;> rfl)
theorem e_impl_cloneSecrets_l3 (n : Nat) {R1} {out : List Secret} {R2} {t7 : List Secret} (t8 : Int) (t9 : Int) [H1 : EncL cSecretO R1 out] [H2 : EncL cSecret R2 t7] : LP T (n + 2) 178 3 (frm [(3, .sl 0), (7, .imm 3 R2), (8, .i .i64 t8), (9, .i .i64 t9)]) [some (Ent.lst 3 R1)] =
    (run (impl_cloneSecrets_l3 t7 t8) (out, t9)).map (fun (zr : (List Secret)) => (XE.exit 0, frm [(3, .sl 0)], [some (Ent.lst 3 (zr.map cSecretO))])) := by
  rcases H1, H2 with ⟨⟨rfl⟩, ⟨rfl⟩⟩
  rw [LP_eq]
  simp -dsimp only [↓evA, evB, lpG_eq, Tryz.func178, Tryz.f178, a178, TP, TZ, Nat.reduceAdd, Nat.reduceMul, Nat.reduceBEq, Nat.reduceLeDiff, Nat.reduceLT]
  refine run_map (fun (zs : (List Secret) × Int) => (frm [(3, .sl 0), (7, .imm 3 (t7.map cSecret)), (8, .i .i64 t8), (9, .i .i64 zs.2)], [some (Ent.lst 3 (zs.1.map cSecretO))])) (fun (zr : (List Secret)) => (XE.exit 0, frm [(3, .sl 0)], [some (Ent.lst 3 (zr.map cSecretO))])) ?_ (out, t9)
  rintro ⟨out, t9⟩
  simp -dsimp +contextual only [↓evA, eZ, Nat.reduceAdd, Nat.reduceMul, Nat.reduceBEq, Nat.reduceLeDiff, Nat.reduceLT, e_slices_Clone_Mark]
  try simp only [impl_cloneSecrets_l3, eY]
  all_goals rfl
theorem e_impl_cloneSecrets (n : Nat) {R1} {l : List Secret} [H1 : EncL cSecret R1 l] : CP T (n + 3) 178 [.imm 3 R1] = (impl_cloneSecrets l).map fun r => .own 3 (r.map cSecretO) := by
  obtain ⟨rfl⟩ := H1
  rw [CP_eq]
  simp -dsimp +contextual only [↓evA, eZ, Nat.reduceAdd, Nat.reduceMul, Nat.reduceBEq, Nat.reduceLeDiff, Nat.reduceLT, Tryz.func178, Tryz.f178, a178, e_impl_cloneSecrets_l3]
  try simp only [impl_cloneSecrets, eY]
  all_goals first | rfl | (simp +contextual only [evN] <;> rfl)
theorem e_slices_Clone_Slot (n : Nat) {R1} {s : List Slot} [H1 : EncL cSlot R1 s] : CP T (n + 1) 63 [.imm 3 R1] = (slices_Clone_Slot s).map fun r => .own 3 (r.map cSlot) := by
  obtain ⟨rfl⟩ := H1
  rw [CP_eq]
  simp -dsimp +contextual only [↓evA, eZ, Nat.reduceAdd, Nat.reduceMul, Nat.reduceBEq, Nat.reduceLeDiff, Nat.reduceLT, Tryz.func63, Tryz.f63, a63]
  try simp only [slices_Clone_Slot, eY]
  all_goals first | rfl | (simp +contextual only [evN] <;> rfl)
theorem e_slices_Clone_Claim (n : Nat) {R1} {s : List Claim} [H1 : EncL cClaim R1 s] : CP T (n + 1) 179 [.imm 5 R1] = (slices_Clone_Claim s).map fun r => .own 5 (r.map cClaim) := by
  obtain ⟨rfl⟩ := H1
  rw [CP_eq]
  simp -dsimp +contextual only [↓evA, eZ, Nat.reduceAdd, Nat.reduceMul, Nat.reduceBEq, Nat.reduceLeDiff, Nat.reduceLT, Tryz.func179, Tryz.f179, a179]
  try simp only [slices_Clone_Claim, eY]
  all_goals first | rfl | (simp +contextual only [evN] <;> rfl)
theorem e_slices_Clone_Trial (n : Nat) {R1} {s : List Trial} [H1 : EncL cTrial R1 s] : CP T (n + 1) 180 [.imm 4 R1] = (slices_Clone_Trial s).map fun r => .own 4 (r.map cTrial) := by
  obtain ⟨rfl⟩ := H1
  rw [CP_eq]
  simp -dsimp +contextual only [↓evA, eZ, Nat.reduceAdd, Nat.reduceMul, Nat.reduceBEq, Nat.reduceLeDiff, Nat.reduceLT, Tryz.func180, Tryz.f180, a180]
  try simp only [slices_Clone_Trial, eY]
  all_goals first | rfl | (simp +contextual only [evN] <;> rfl)
theorem e_slices_Clone_Hand (n : Nat) {R1} {s : List Hand} [H1 : EncL cHand R1 s] : CP T (n + 1) 181 [.imm 5 R1] = (slices_Clone_Hand s).map fun r => .own 5 (r.map cHand) := by
  obtain ⟨rfl⟩ := H1
  rw [CP_eq]
  simp -dsimp +contextual only [↓evA, eZ, Nat.reduceAdd, Nat.reduceMul, Nat.reduceBEq, Nat.reduceLeDiff, Nat.reduceLT, Tryz.func181, Tryz.f181, a181]
  try simp only [slices_Clone_Hand, eY]
  all_goals first | rfl | (simp +contextual only [evN] <;> rfl)
theorem e_slices_Clone_Entry (n : Nat) {R1} {s : List Entry} [H1 : EncL cEntry R1 s] : CP T (n + 1) 182 [.imm 4 R1] = (slices_Clone_Entry s).map fun r => .own 4 (r.map cEntry) := by
  obtain ⟨rfl⟩ := H1
  rw [CP_eq]
  simp -dsimp +contextual only [↓evA, eZ, Nat.reduceAdd, Nat.reduceMul, Nat.reduceBEq, Nat.reduceLeDiff, Nat.reduceLT, Tryz.func182, Tryz.f182, a182]
  try simp only [slices_Clone_Entry, eY]
  all_goals first | rfl | (simp +contextual only [evN] <;> rfl)
theorem e_impl_cloneHouse (n : Nat) (vhxNo : Int) {R1} {vhxFinds : List Find} {R2} {vhxSecrets : List Secret} {R3} {vhxSlots : List Slot} {R4} {vhxClaims : List Claim} {R5} {vhxTrials : List Trial} {R6} {vhxChain : List Hand} {R7} {vhxBook : List Entry} (vhxNow : Int) [H1 : EncL cFind R1 vhxFinds] [H2 : EncL cSecret R2 vhxSecrets] [H3 : EncL cSlot R3 vhxSlots] [H4 : EncL cClaim R4 vhxClaims] [H5 : EncL cTrial R5 vhxTrials] [H6 : EncL cHand R6 vhxChain] [H7 : EncL cEntry R7 vhxBook] : CP T (n + 4) 99 [.agg [.i .i64 vhxNo, .imm 8 R1, .imm 3 R2, .imm 3 R3, .imm 5 R4, .imm 4 R5, .imm 5 R6, .imm 4 R7, .i .i64 vhxNow]] = (impl_cloneHouse (⟨vhxNo, vhxFinds, vhxSecrets, vhxSlots, vhxClaims, vhxTrials, vhxChain, vhxBook, vhxNow⟩ : House)).map fun r => .agg (cHouseO r) := by
  rcases H1, H2, H3, H4, H5, H6, H7 with ⟨⟨rfl⟩, ⟨rfl⟩, ⟨rfl⟩, ⟨rfl⟩, ⟨rfl⟩, ⟨rfl⟩, ⟨rfl⟩⟩
  rw [CP_eq]
  simp -dsimp +contextual (maxSteps := 1000000) only [↓evA, eZ, Nat.reduceAdd, Nat.reduceMul, Nat.reduceBEq, Nat.reduceLeDiff, Nat.reduceLT, Tryz.func99, Tryz.f99, a99, e_slices_Clone_Find, e_impl_cloneSecrets, e_slices_Clone_Slot, e_slices_Clone_Claim, e_slices_Clone_Trial, e_slices_Clone_Hand, e_slices_Clone_Entry]
  try simp only [impl_cloneHouse, eY]
  all_goals rfl
theorem e_impl_FirstProved_l4 (n : Nat) (thing : Int) (bestxId : Int) (bestxWho : Int) (bestxThing : Int) (bestxAt : Int) (bestxState : Int) (found : Bool) {R1} {t10 : List Claim} (t11 : Int) (t12 : Int) [H1 : EncL cClaim R1 t10] : LP T (n + 1) 123 4 (frm [(1, .i .i64 thing), (5, .ptr 0 0 0), (6, .b found), (10, .imm 5 R1), (11, .i .i64 t11), (12, .i .i64 t12)]) [some (Ent.box [.i .i64 bestxId, .i .i64 bestxWho, .i .i64 bestxThing, .i .i64 bestxAt, .i .i64 bestxState])] =
    (run (impl_FirstProved_l4 thing t10 t11) ((⟨bestxId, bestxWho, bestxThing, bestxAt, bestxState⟩ : Claim), found, t12)).map (fun (zr : Claim) => (XE.exit 0, frm [(5, .ptr 0 0 0)], [some (Ent.box [.i .i64 zr.Id, .i .i64 zr.Who, .i .i64 zr.Thing, .i .i64 zr.At, .i .i64 zr.State])])) := by
  obtain ⟨rfl⟩ := H1
  rw [LP_eq]
  simp -dsimp only [↓evA, evB, lpG_eq, Tryz.func123, Tryz.f123, a123, TP, TZ, Nat.reduceAdd, Nat.reduceMul, Nat.reduceBEq, Nat.reduceLeDiff, Nat.reduceLT]
  refine run_map (fun (zs : Claim × Bool × Int) => (frm [(1, .i .i64 thing), (5, .ptr 0 0 0), (6, .b zs.2.1), (10, .imm 5 (t10.map cClaim)), (11, .i .i64 t11), (12, .i .i64 zs.2.2)], [some (Ent.box [.i .i64 zs.1.Id, .i .i64 zs.1.Who, .i .i64 zs.1.Thing, .i .i64 zs.1.At, .i .i64 zs.1.State])])) (fun (zr : Claim) => (XE.exit 0, frm [(5, .ptr 0 0 0)], [some (Ent.box [.i .i64 zr.Id, .i .i64 zr.Who, .i .i64 zr.Thing, .i .i64 zr.At, .i .i64 zr.State])])) ?_ ((⟨bestxId, bestxWho, bestxThing, bestxAt, bestxState⟩ : Claim), found, t12)
  rintro ⟨best, found, t12⟩
  simp -dsimp +contextual only [↓evA, eZ, Nat.reduceAdd, Nat.reduceMul, Nat.reduceBEq, Nat.reduceLeDiff, Nat.reduceLT]
  try simp only [impl_FirstProved_l4, eY]
  all_goals rfl
theorem e_impl_FirstProved (n : Nat) {R1} {l : List Claim} (thing : Int) [H1 : EncL cClaim R1 l] : CP T (n + 2) 123 [.imm 5 R1, .i .i64 thing] = (impl_FirstProved l thing).map fun r => .i .i64 r := by
  obtain ⟨rfl⟩ := H1
  rw [CP_eq]
  simp -dsimp +contextual only [↓evA, eZ, Nat.reduceAdd, Nat.reduceMul, Nat.reduceBEq, Nat.reduceLeDiff, Nat.reduceLT, Tryz.func123, Tryz.f123, a123, e_impl_FirstProved_l4]
  try simp only [impl_FirstProved, eY]
  all_goals rfl
theorem e_impl_KeepDays (n : Nat) (kind : Int) : CP T (n + 1) 271 [.i .i64 kind] = (impl_KeepDays kind).map fun r => .i .i64 r := by
  rw [CP_eq]
  simp -dsimp +contextual only [↓evA, eZ, Nat.reduceAdd, Nat.reduceMul, Nat.reduceBEq, Nat.reduceLeDiff, Nat.reduceLT, Tryz.func271, Tryz.f271, a271]
  try simp only [impl_KeepDays, eY]
  all_goals rfl
theorem e_impl_DueHour (n : Nat) (fxThingxId : Int) (fxThingxKind : Int) (fxThingxColour : Int) (fxThingxSize : Int) (fxThingxWorth : Int) (fxPlace : Int) (fxAt : Int) (fxFinder : Int) : CP T (n + 4) 250 [.agg [.i .i64 fxThingxId, .i .i64 fxThingxKind, .i .i64 fxThingxColour, .i .i64 fxThingxSize, .i .i64 fxThingxWorth, .i .i64 fxPlace, .i .i64 fxAt, .i .i64 fxFinder]] = (impl_DueHour (⟨⟨fxThingxId, fxThingxKind, fxThingxColour, fxThingxSize, fxThingxWorth⟩, fxPlace, fxAt, fxFinder⟩ : Find)).map fun r => .i .i64 r := by
  rw [CP_eq]
  simp -dsimp +contextual only [↓evA, eZ, Nat.reduceAdd, Nat.reduceMul, Nat.reduceBEq, Nat.reduceLeDiff, Nat.reduceLT, Tryz.func250, Tryz.f250, a250, e_impl_IsFind, e_impl_KeepDays]
  try simp only [impl_DueHour, eY]
  all_goals rfl
theorem e_impl_IsDue (n : Nat) (fxThingxId : Int) (fxThingxKind : Int) (fxThingxColour : Int) (fxThingxSize : Int) (fxThingxWorth : Int) (fxPlace : Int) (fxAt : Int) (fxFinder : Int) (now : Int) : CP T (n + 5) 214 [.agg [.i .i64 fxThingxId, .i .i64 fxThingxKind, .i .i64 fxThingxColour, .i .i64 fxThingxSize, .i .i64 fxThingxWorth, .i .i64 fxPlace, .i .i64 fxAt, .i .i64 fxFinder], .i .i64 now] = (impl_IsDue (⟨⟨fxThingxId, fxThingxKind, fxThingxColour, fxThingxSize, fxThingxWorth⟩, fxPlace, fxAt, fxFinder⟩ : Find) now).map fun r => .b r := by
  rw [CP_eq]
  simp -dsimp +contextual only [↓evA, eZ, Nat.reduceAdd, Nat.reduceMul, Nat.reduceBEq, Nat.reduceLeDiff, Nat.reduceLT, Tryz.func214, Tryz.f214, a214, e_impl_IsFind, e_impl_DueHour]
  try simp only [impl_IsDue, eY]
  all_goals rfl
theorem e_impl_FateOf_1 (n : Nat) (cxId : Int) (cxWho : Int) (cxThing : Int) (cxAt : Int) (cxState : Int) (c2xId : Int) (c2xKind : Int) (c2xColour : Int) (c2xSize : Int) (c2xWorth : Int) : CP T (n + 1) 215 [.agg [.i .i64 cxId, .i .i64 cxWho, .i .i64 cxThing, .i .i64 cxAt, .i .i64 cxState], .iptr 5 [[.i .i64 c2xId, .i .i64 c2xKind, .i .i64 c2xColour, .i .i64 c2xSize, .i .i64 c2xWorth]] 0 0] = (impl_FateOf_1 (⟨cxId, cxWho, cxThing, cxAt, cxState⟩ : Claim) (⟨c2xId, c2xKind, c2xColour, c2xSize, c2xWorth⟩ : Thing)).map fun r => .b r := by
  rw [CP_eq]
  simp -dsimp +contextual only [↓evA, eZ, Nat.reduceAdd, Nat.reduceMul, Nat.reduceBEq, Nat.reduceLeDiff, Nat.reduceLT, Tryz.func215, Tryz.f215, a215]
  try simp only [impl_FateOf_1, eY]
  all_goals rfl
theorem e_slices_IndexFunc_Claim_cimpl_FateOf_1_l2 (n : Nat) {R1} {s : List Claim} (fxId : Int) (fxKind : Int) (fxColour : Int) (fxSize : Int) (fxWorth : Int) (t7 : Int) (t8 : Int) [H1 : EncL cClaim R1 s] : LP T (n + 2) 190 2 (frm [(0, .imm 5 R1), (1, .clo 215 [.iptr 5 [[.i .i64 fxId, .i .i64 fxKind, .i .i64 fxColour, .i .i64 fxSize, .i .i64 fxWorth]] 0 0]), (7, .i .i64 t7), (8, .i .i64 t8)]) [] =
    lmap (run (slices_IndexFunc_Claim_cimpl_FateOf_1_l2 s (⟨fxId, fxKind, fxColour, fxSize, fxWorth⟩ : Thing) t7) t8) (fun (zr : Int) => (XE.ret, frm [(4, .i .i64 zr)], [])) (fun (zr : Unit) => (XE.exit 0, frm [], [])) := by
  obtain ⟨rfl⟩ := H1
  rw [LP_eq]
  simp -dsimp only [↓evA, evB, lpG_eq, Tryz.func190, Tryz.f190, a190, TP, TZ, Nat.reduceAdd, Nat.reduceMul, Nat.reduceBEq, Nat.reduceLeDiff, Nat.reduceLT]
  refine run_map (fun (zs : Int) => (frm [(0, .imm 5 (s.map cClaim)), (1, .clo 215 [.iptr 5 [[.i .i64 fxId, .i .i64 fxKind, .i .i64 fxColour, .i .i64 fxSize, .i .i64 fxWorth]] 0 0]), (7, .i .i64 t7), (8, .i .i64 zs)], [])) (evO (fun (zr : Int) => (XE.ret, frm [(4, .i .i64 zr)], [])) (fun (zr : Unit) => (XE.exit 0, frm [], []))) ?_ t8
  intro t8
  simp -dsimp +contextual only [↓evA, eZ, Nat.reduceAdd, Nat.reduceMul, Nat.reduceBEq, Nat.reduceLeDiff, Nat.reduceLT, e_impl_FateOf_1]
  try simp only [slices_IndexFunc_Claim_cimpl_FateOf_1_l2, eY]
  all_goals rfl
theorem e_slices_IndexFunc_Claim_cimpl_FateOf_1 (n : Nat) {R1} {s : List Claim} (cxId : Int) (cxKind : Int) (cxColour : Int) (cxSize : Int) (cxWorth : Int) [H1 : EncL cClaim R1 s] : CP T (n + 3) 190 [.imm 5 R1, .clo 215 [.iptr 5 [[.i .i64 cxId, .i .i64 cxKind, .i .i64 cxColour, .i .i64 cxSize, .i .i64 cxWorth]] 0 0]] = (slices_IndexFunc_Claim_cimpl_FateOf_1 s (⟨cxId, cxKind, cxColour, cxSize, cxWorth⟩ : Thing)).map fun r => .i .i64 r := by
  obtain ⟨rfl⟩ := H1
  rw [CP_eq]
  simp -dsimp +contextual only [↓evA, eZ, Nat.reduceAdd, Nat.reduceMul, Nat.reduceBEq, Nat.reduceLeDiff, Nat.reduceLT, Tryz.func190, Tryz.f190, a190, e_slices_IndexFunc_Claim_cimpl_FateOf_1_l2]
  try simp only [slices_IndexFunc_Claim_cimpl_FateOf_1, eY]
  all_goals rfl
theorem e_slices_ContainsFunc_Claim_cimpl_FateOf_1 (n : Nat) {R1} {s : List Claim} (cxId : Int) (cxKind : Int) (cxColour : Int) (cxSize : Int) (cxWorth : Int) [H1 : EncL cClaim R1 s] : CP T (n + 4) 199 [.imm 5 R1, .clo 215 [.iptr 5 [[.i .i64 cxId, .i .i64 cxKind, .i .i64 cxColour, .i .i64 cxSize, .i .i64 cxWorth]] 0 0]] = (slices_ContainsFunc_Claim_cimpl_FateOf_1 s (⟨cxId, cxKind, cxColour, cxSize, cxWorth⟩ : Thing)).map fun r => .b r := by
  obtain ⟨rfl⟩ := H1
  rw [CP_eq]
  simp -dsimp +contextual only [↓evA, eZ, Nat.reduceAdd, Nat.reduceMul, Nat.reduceBEq, Nat.reduceLeDiff, Nat.reduceLT, Tryz.func199, Tryz.f199, a199, e_slices_IndexFunc_Claim_cimpl_FateOf_1]
  try simp only [slices_ContainsFunc_Claim_cimpl_FateOf_1, eY]
  all_goals rfl
theorem e_impl_FateOf (n : Nat) (fxThingxId : Int) (fxThingxKind : Int) (fxThingxColour : Int) (fxThingxSize : Int) (fxThingxWorth : Int) (fxPlace : Int) (fxAt : Int) (fxFinder : Int) {R1} {l : List Claim} (now : Int) [H1 : EncL cClaim R1 l] : CP T (n + 6) 128 [.agg [.i .i64 fxThingxId, .i .i64 fxThingxKind, .i .i64 fxThingxColour, .i .i64 fxThingxSize, .i .i64 fxThingxWorth, .i .i64 fxPlace, .i .i64 fxAt, .i .i64 fxFinder], .imm 5 R1, .i .i64 now] = (impl_FateOf (⟨⟨fxThingxId, fxThingxKind, fxThingxColour, fxThingxSize, fxThingxWorth⟩, fxPlace, fxAt, fxFinder⟩ : Find) l now).map fun r => .i .i64 r := by
  obtain ⟨rfl⟩ := H1
  rw [CP_eq]
  simp -dsimp +contextual only [↓evA, eZ, Nat.reduceAdd, Nat.reduceMul, Nat.reduceBEq, Nat.reduceLeDiff, Nat.reduceLT, Tryz.func128, Tryz.f128, a128, e_impl_FirstProved, e_impl_IsDue, e_slices_ContainsFunc_Claim_cimpl_FateOf_1]
  try simp only [impl_FateOf, eY]
  all_goals rfl
theorem e_impl_TakeOut (n : Nat) {R1} {l : List Slot} (thing : Int) [H1 : EncL cSlot R1 l] : CP T (n + 8) 211 [.imm 3 R1, .i .i64 thing] = (impl_TakeOut l thing).map fun r => .tup [.own 3 (r.1.map cSlot), .b r.2] := by
  obtain ⟨rfl⟩ := H1
  rw [CP_eq]
  simp -dsimp +contextual only [↓evA, eZ, Nat.reduceAdd, Nat.reduceMul, Nat.reduceBEq, Nat.reduceLeDiff, Nat.reduceLT, Tryz.func211, Tryz.f211, a211, e_slices_Clone_Slot, e_impl_slotWith, e_impl_AreSlots]
  try simp only [impl_TakeOut, eY]
  all_goals first | rfl | (simp +contextual only [evN] <;> rfl)
theorem e_impl_AddHand (n : Nat) {R1} {l : List Hand} (xxThing : Int) (xxHolder : Int) (xxWho : Int) (xxAt : Int) (xxSeal : Int) [H1 : EncL cHand R1 l] : CP T (n + 9) 138 [.imm 5 R1, .agg [.i .i64 xxThing, .i .i64 xxHolder, .i .i64 xxWho, .i .i64 xxAt, .i .i64 xxSeal]] = (impl_AddHand l (⟨xxThing, xxHolder, xxWho, xxAt, xxSeal⟩ : Hand)).map fun r => .tup [.own 5 (r.1.map cHand), .b r.2] := by
  obtain ⟨rfl⟩ := H1
  rw [CP_eq]
  simp -dsimp +contextual only [↓evA, eZ, Nat.reduceAdd, Nat.reduceMul, Nat.reduceBEq, Nat.reduceLeDiff, Nat.reduceLT, Tryz.func138, Tryz.f138, a138, e_impl_HandSeal, e_slices_Clone_Hand, e_impl_IsChain]
  try simp only [impl_AddHand, eY]
  try simp only [List.contains_nil, Bool.not_false, Bool.and_true, e_need_t, List.length_append, List.length_cons, List.length_nil, Nat.zero_add, need_comm, oeq_self]
  all_goals first | rfl | (simp +contextual only [evN] <;> rfl)
theorem e_impl_handed (n : Nat) (vhxNo : Int) {R1} {vhxFinds : List Find} {R2} {vhxSecrets : List Secret} {R3} {vhxSlots : List Slot} {R4} {vhxClaims : List Claim} {R5} {vhxTrials : List Trial} {R6} {vhxChain : List Hand} {R7} {vhxBook : List Entry} (vhxNow : Int) (thing : Int) (holder : Int) (who : Int) [H1 : EncL cFind R1 vhxFinds] [H2 : EncL cSecret R2 vhxSecrets] [H3 : EncL cSlot R3 vhxSlots] [H4 : EncL cClaim R4 vhxClaims] [H5 : EncL cTrial R5 vhxTrials] [H6 : EncL cHand R6 vhxChain] [H7 : EncL cEntry R7 vhxBook] : CP T (n + 10) 124 [.agg [.i .i64 vhxNo, .imm 8 R1, .imm 3 R2, .imm 3 R3, .imm 5 R4, .imm 4 R5, .imm 5 R6, .imm 4 R7, .i .i64 vhxNow], .i .i64 thing, .i .i64 holder, .i .i64 who] = (impl_handed (⟨vhxNo, vhxFinds, vhxSecrets, vhxSlots, vhxClaims, vhxTrials, vhxChain, vhxBook, vhxNow⟩ : House) thing holder who).map fun r => .tup [.agg (cHouseO r.1), .b r.2] := by
  rcases H1, H2, H3, H4, H5, H6, H7 with ⟨⟨rfl⟩, ⟨rfl⟩, ⟨rfl⟩, ⟨rfl⟩, ⟨rfl⟩, ⟨rfl⟩, ⟨rfl⟩⟩
  rw [CP_eq]
  simp -dsimp +contextual (maxSteps := 1000000) only [↓evA, eZ, Nat.reduceAdd, Nat.reduceMul, Nat.reduceBEq, Nat.reduceLeDiff, Nat.reduceLT, Tryz.func124, Tryz.f124, a124, e_impl_cloneHouse, e_impl_TakeOut, e_impl_AddHand]
  try simp only [impl_handed, eY]
  all_goals rfl
theorem e_slices_Index_bool_l2 (n : Nat) {R1} {s : List Bool} (v : Bool) (t7 : Int) (t8 : Int) [H1 : EncL c_b R1 s] : LP T (n + 1) 239 2 (frm [(0, .imm 1 R1), (1, .b v), (7, .i .i64 t7), (8, .i .i64 t8)]) [] =
    lmap (run (slices_Index_bool_l2 s v t7) t8) (fun (zr : Int) => (XE.ret, frm [(4, .i .i64 zr)], [])) (fun (zr : Unit) => (XE.exit 0, frm [], [])) := by
  obtain ⟨rfl⟩ := H1
  rw [LP_eq]
  simp -dsimp only [↓evA, evB, lpG_eq, Tryz.func239, Tryz.f239, a239, TP, TZ, Nat.reduceAdd, Nat.reduceMul, Nat.reduceBEq, Nat.reduceLeDiff, Nat.reduceLT]
  refine run_map (fun (zs : Int) => (frm [(0, .imm 1 (s.map c_b)), (1, .b v), (7, .i .i64 t7), (8, .i .i64 zs)], [])) (evO (fun (zr : Int) => (XE.ret, frm [(4, .i .i64 zr)], [])) (fun (zr : Unit) => (XE.exit 0, frm [], []))) ?_ t8
  intro t8
  simp -dsimp +contextual only [↓evA, eZ, Nat.reduceAdd, Nat.reduceMul, Nat.reduceBEq, Nat.reduceLeDiff, Nat.reduceLT]
  try simp only [slices_Index_bool_l2, eY]
  all_goals rfl
theorem e_slices_Index_bool (n : Nat) {R1} {s : List Bool} (v : Bool) [H1 : EncL c_b R1 s] : CP T (n + 2) 239 [.imm 1 R1, .b v] = (slices_Index_bool s v).map fun r => .i .i64 r := by
  obtain ⟨rfl⟩ := H1
  rw [CP_eq]
  simp -dsimp +contextual only [↓evA, eZ, Nat.reduceAdd, Nat.reduceMul, Nat.reduceBEq, Nat.reduceLeDiff, Nat.reduceLT, Tryz.func239, Tryz.f239, a239, e_slices_Index_bool_l2]
  try simp only [slices_Index_bool, eY]
  all_goals rfl
theorem e_slices_Contains_bool (n : Nat) {R1} {s : List Bool} (v : Bool) [H1 : EncL c_b R1 s] : CP T (n + 3) 183 [.imm 1 R1, .b v] = (slices_Contains_bool s v).map fun r => .b r := by
  obtain ⟨rfl⟩ := H1
  rw [CP_eq]
  simp -dsimp +contextual only [↓evA, eZ, Nat.reduceAdd, Nat.reduceMul, Nat.reduceBEq, Nat.reduceLeDiff, Nat.reduceLT, Tryz.func183, Tryz.f183, a183, e_slices_Index_bool]
  try simp only [slices_Contains_bool, eY]
  all_goals rfl
theorem e_impl_stepped (n : Nat) (vhxNo : Int) {R1} {vhxFinds : List Find} {R2} {vhxSecrets : List Secret} {R3} {vhxSlots : List Slot} {R4} {vhxClaims : List Claim} {R5} {vhxTrials : List Trial} {R6} {vhxChain : List Hand} {R7} {vhxBook : List Entry} (vhxNow : Int) (outxNo : Int) {R8} {outxFinds : List Find} {R9} {outxSecrets : List Secret} {R10} {outxSlots : List Slot} {R11} {outxClaims : List Claim} {R12} {outxTrials : List Trial} {R13} {outxChain : List Hand} {R14} {outxBook : List Entry} (outxNow : Int) {R15} {done : List Bool} [H1 : EncL cFind R1 vhxFinds] [H2 : EncL cSecret R2 vhxSecrets] [H3 : EncL cSlot R3 vhxSlots] [H4 : EncL cClaim R4 vhxClaims] [H5 : EncL cTrial R5 vhxTrials] [H6 : EncL cHand R6 vhxChain] [H7 : EncL cEntry R7 vhxBook] [H8 : EncL cFind R8 outxFinds] [H9 : EncL cSecretO R9 outxSecrets] [H10 : EncL cSlot R10 outxSlots] [H11 : EncL cClaim R11 outxClaims] [H12 : EncL cTrial R12 outxTrials] [H13 : EncL cHand R13 outxChain] [H14 : EncL cEntry R14 outxBook] [H15 : EncL c_b R15 done] : CM T (n + 12) 100 [some (Ent.lst 8 R8), some (Ent.lst 3 R9), some (Ent.lst 3 R10), some (Ent.lst 5 R11), some (Ent.lst 4 R12), some (Ent.lst 5 R13), some (Ent.lst 4 R14), some (Ent.lst 1 R15)] [.agg [.i .i64 vhxNo, .imm 8 R1, .imm 3 R2, .imm 3 R3, .imm 5 R4, .imm 4 R5, .imm 5 R6, .imm 4 R7, .i .i64 vhxNow], .agg [.i .i64 outxNo, .sl 0, .sl 1, .sl 2, .sl 3, .sl 4, .sl 5, .sl 6, .i .i64 outxNow], .sl 7] = (impl_stepped (⟨vhxNo, vhxFinds, vhxSecrets, vhxSlots, vhxClaims, vhxTrials, vhxChain, vhxBook, vhxNow⟩ : House) (⟨outxNo, outxFinds, outxSecrets, outxSlots, outxClaims, outxTrials, outxChain, outxBook, outxNow⟩ : House) done).map fun r => .tup [.agg (cHouseO r.1), .b r.2] := by
  rcases H1, H2, H3, H4, H5, H6, H7, H8, H9, H10, H11, H12, H13, H14, H15 with ⟨⟨rfl⟩, ⟨rfl⟩, ⟨rfl⟩, ⟨rfl⟩, ⟨rfl⟩, ⟨rfl⟩, ⟨rfl⟩, ⟨rfl⟩, ⟨rfl⟩, ⟨rfl⟩, ⟨rfl⟩, ⟨rfl⟩, ⟨rfl⟩, ⟨rfl⟩, ⟨rfl⟩⟩
  rw [CM_eq]
  simp -dsimp +contextual (maxSteps := 1000000) only [↓evA, eZ, Nat.reduceAdd, Nat.reduceMul, Nat.reduceBEq, Nat.reduceLeDiff, Nat.reduceLT, Tryz.func100, Tryz.f100, a100, e_slices_Contains_bool, e_impl_IsHouse, e_impl_cloneHouse]
  try simp only [impl_stepped, eY]
  all_goals rfl
theorem e_impl_stepped_i (n : Nat) (vhxNo : Int) {R1} {vhxFinds : List Find} {R2} {vhxSecrets : List Secret} {R3} {vhxSlots : List Slot} {R4} {vhxClaims : List Claim} {R5} {vhxTrials : List Trial} {R6} {vhxChain : List Hand} {R7} {vhxBook : List Entry} (vhxNow : Int) (outxNo : Int) {R8} {outxFinds : List Find} {R9} {outxSecrets : List Secret} {R10} {outxSlots : List Slot} {R11} {outxClaims : List Claim} {R12} {outxTrials : List Trial} {R13} {outxChain : List Hand} {R14} {outxBook : List Entry} (outxNow : Int) {R15} {done : List Bool} [H1 : EncL cFind R1 vhxFinds] [H2 : EncL cSecret R2 vhxSecrets] [H3 : EncL cSlot R3 vhxSlots] [H4 : EncL cClaim R4 vhxClaims] [H5 : EncL cTrial R5 vhxTrials] [H6 : EncL cHand R6 vhxChain] [H7 : EncL cEntry R7 vhxBook] [H8 : EncL cFind R8 outxFinds] [H9 : EncL cSecret R9 outxSecrets] [H10 : EncL cSlot R10 outxSlots] [H11 : EncL cClaim R11 outxClaims] [H12 : EncL cTrial R12 outxTrials] [H13 : EncL cHand R13 outxChain] [H14 : EncL cEntry R14 outxBook] [H15 : EncL c_b R15 done] : CM T (n + 12) 100 [some (Ent.lst 1 R15)] [.agg [.i .i64 vhxNo, .imm 8 R1, .imm 3 R2, .imm 3 R3, .imm 5 R4, .imm 4 R5, .imm 5 R6, .imm 4 R7, .i .i64 vhxNow], .agg [.i .i64 outxNo, .imm 8 R8, .imm 3 R9, .imm 3 R10, .imm 5 R11, .imm 4 R12, .imm 5 R13, .imm 4 R14, .i .i64 outxNow], .sl 0] = (impl_stepped_i (⟨vhxNo, vhxFinds, vhxSecrets, vhxSlots, vhxClaims, vhxTrials, vhxChain, vhxBook, vhxNow⟩ : House) (⟨outxNo, outxFinds, outxSecrets, outxSlots, outxClaims, outxTrials, outxChain, outxBook, outxNow⟩ : House) done).map fun r => .tup [.agg (cHouseO r.1), .b r.2] := by
  rcases H1, H2, H3, H4, H5, H6, H7, H8, H9, H10, H11, H12, H13, H14, H15 with ⟨⟨rfl⟩, ⟨rfl⟩, ⟨rfl⟩, ⟨rfl⟩, ⟨rfl⟩, ⟨rfl⟩, ⟨rfl⟩, ⟨rfl⟩, ⟨rfl⟩, ⟨rfl⟩, ⟨rfl⟩, ⟨rfl⟩, ⟨rfl⟩, ⟨rfl⟩, ⟨rfl⟩⟩
  rw [CM_eq]
  simp -dsimp +contextual (maxSteps := 1000000) only [↓evA, eZ, Nat.reduceAdd, Nat.reduceMul, Nat.reduceBEq, Nat.reduceLeDiff, Nat.reduceLT, Tryz.func100, Tryz.f100, a100, e_slices_Contains_bool, e_impl_IsHouse, e_impl_cloneHouse]
  try simp only [impl_stepped_i, eY]
  all_goals rfl
theorem e_impl_StepClear (n : Nat) (vhxNo : Int) {R1} {vhxFinds : List Find} {R2} {vhxSecrets : List Secret} {R3} {vhxSlots : List Slot} {R4} {vhxClaims : List Claim} {R5} {vhxTrials : List Trial} {R6} {vhxChain : List Hand} {R7} {vhxBook : List Entry} (vhxNow : Int) (thing : Int) [H1 : EncL cFind R1 vhxFinds] [H2 : EncL cSecret R2 vhxSecrets] [H3 : EncL cSlot R3 vhxSlots] [H4 : EncL cClaim R4 vhxClaims] [H5 : EncL cTrial R5 vhxTrials] [H6 : EncL cHand R6 vhxChain] [H7 : EncL cEntry R7 vhxBook] : CP T (n + 13) 33 [.agg [.i .i64 vhxNo, .imm 8 R1, .imm 3 R2, .imm 3 R3, .imm 5 R4, .imm 4 R5, .imm 5 R6, .imm 4 R7, .i .i64 vhxNow], .i .i64 thing] = (impl_StepClear (⟨vhxNo, vhxFinds, vhxSecrets, vhxSlots, vhxClaims, vhxTrials, vhxChain, vhxBook, vhxNow⟩ : House) thing).map fun r => .tup [.agg (cHouseO r.1), .b r.2] := by
  rcases H1, H2, H3, H4, H5, H6, H7 with ⟨⟨rfl⟩, ⟨rfl⟩, ⟨rfl⟩, ⟨rfl⟩, ⟨rfl⟩, ⟨rfl⟩, ⟨rfl⟩⟩
  rw [CP_eq]
  simp -dsimp +contextual (maxSteps := 1000000) only [↓evA, eZ, Nat.reduceAdd, Nat.reduceMul, Nat.reduceBEq, Nat.reduceLeDiff, Nat.reduceLT, Tryz.func33, Tryz.f33, a33, srt, e_impl_findIn, e_impl_cloneHouse, e_impl_FateOf, e_impl_handed, e_impl_stepped, e_impl_stepped_i]
  try simp only [impl_StepClear, eY]
  all_goals rfl
theorem e_laws_eqThing (n : Nat) (axId : Int) (axKind : Int) (axColour : Int) (axSize : Int) (axWorth : Int) (bxId : Int) (bxKind : Int) (bxColour : Int) (bxSize : Int) (bxWorth : Int) : CP T (n + 1) 228 [.agg [.i .i64 axId, .i .i64 axKind, .i .i64 axColour, .i .i64 axSize, .i .i64 axWorth], .agg [.i .i64 bxId, .i .i64 bxKind, .i .i64 bxColour, .i .i64 bxSize, .i .i64 bxWorth]] = (laws_eqThing (⟨axId, axKind, axColour, axSize, axWorth⟩ : Thing) (⟨bxId, bxKind, bxColour, bxSize, bxWorth⟩ : Thing)).map fun r => .b r := by
  rw [CP_eq]
  simp -dsimp +contextual only [↓evA, eZ, Nat.reduceAdd, Nat.reduceMul, Nat.reduceBEq, Nat.reduceLeDiff, Nat.reduceLT, Tryz.func228, Tryz.f228, a228]
  try simp only [laws_eqThing, eY]
  all_goals rfl
theorem e_laws_eqFind (n : Nat) (axThingxId : Int) (axThingxKind : Int) (axThingxColour : Int) (axThingxSize : Int) (axThingxWorth : Int) (axPlace : Int) (axAt : Int) (axFinder : Int) (bxThingxId : Int) (bxThingxKind : Int) (bxThingxColour : Int) (bxThingxSize : Int) (bxThingxWorth : Int) (bxPlace : Int) (bxAt : Int) (bxFinder : Int) : CP T (n + 2) 146 [.agg [.i .i64 axThingxId, .i .i64 axThingxKind, .i .i64 axThingxColour, .i .i64 axThingxSize, .i .i64 axThingxWorth, .i .i64 axPlace, .i .i64 axAt, .i .i64 axFinder], .agg [.i .i64 bxThingxId, .i .i64 bxThingxKind, .i .i64 bxThingxColour, .i .i64 bxThingxSize, .i .i64 bxThingxWorth, .i .i64 bxPlace, .i .i64 bxAt, .i .i64 bxFinder]] = (laws_eqFind (⟨⟨axThingxId, axThingxKind, axThingxColour, axThingxSize, axThingxWorth⟩, axPlace, axAt, axFinder⟩ : Find) (⟨⟨bxThingxId, bxThingxKind, bxThingxColour, bxThingxSize, bxThingxWorth⟩, bxPlace, bxAt, bxFinder⟩ : Find)).map fun r => .b r := by
  rw [CP_eq]
  simp -dsimp +contextual only [↓evA, eZ, Nat.reduceAdd, Nat.reduceMul, Nat.reduceBEq, Nat.reduceLeDiff, Nat.reduceLT, Tryz.func146, Tryz.f146, a146, e_laws_eqThing]
  try simp only [laws_eqFind, eY]
  all_goals rfl
theorem e_laws_eqFindS_l4 (n : Nat) {R1} {a : List Find} {R2} {b : List Find} (i : Int) [H1 : EncL cFind R1 a] [H2 : EncL cFind R2 b] : LP T (n + 3) 65 4 (frm [(0, .imm 8 R1), (1, .imm 8 R2), (5, .i .i64 i)]) [] =
    lmap (run (laws_eqFindS_l4 a b) i) (fun (zr : Bool) => (XE.ret, frm [(4, .b zr)], [])) (fun (zr : Unit) => (XE.exit 0, frm [], [])) := by
  rcases H1, H2 with ⟨⟨rfl⟩, ⟨rfl⟩⟩
  rw [LP_eq]
  simp -dsimp only [↓evA, evB, lpG_eq, Tryz.func65, Tryz.f65, a65, TP, TZ, Nat.reduceAdd, Nat.reduceMul, Nat.reduceBEq, Nat.reduceLeDiff, Nat.reduceLT]
  refine run_map (fun (zs : Int) => (frm [(0, .imm 8 (a.map cFind)), (1, .imm 8 (b.map cFind)), (5, .i .i64 zs)], [])) (evO (fun (zr : Bool) => (XE.ret, frm [(4, .b zr)], [])) (fun (zr : Unit) => (XE.exit 0, frm [], []))) ?_ i
  intro i
  simp -dsimp +contextual only [↓evA, eZ, Nat.reduceAdd, Nat.reduceMul, Nat.reduceBEq, Nat.reduceLeDiff, Nat.reduceLT, e_laws_eqFind]
  try simp only [laws_eqFindS_l4, eY]
  all_goals rfl
theorem e_laws_eqFindS (n : Nat) {R1} {a : List Find} {R2} {b : List Find} [H1 : EncL cFind R1 a] [H2 : EncL cFind R2 b] : CP T (n + 4) 65 [.imm 8 R1, .imm 8 R2] = (laws_eqFindS a b).map fun r => .b r := by
  rcases H1, H2 with ⟨⟨rfl⟩, ⟨rfl⟩⟩
  rw [CP_eq]
  simp -dsimp +contextual only [↓evA, eZ, Nat.reduceAdd, Nat.reduceMul, Nat.reduceBEq, Nat.reduceLeDiff, Nat.reduceLT, Tryz.func65, Tryz.f65, a65, e_laws_eqFindS_l4]
  try simp only [laws_eqFindS, eY]
  all_goals rfl
theorem e_laws_eqMark (n : Nat) (axQuestion : Int) (axAnswer : Int) (bxQuestion : Int) (bxAnswer : Int) : CP T (n + 1) 139 [.agg [.i .i64 axQuestion, .i .i64 axAnswer], .agg [.i .i64 bxQuestion, .i .i64 bxAnswer]] = (laws_eqMark (⟨axQuestion, axAnswer⟩ : Mark) (⟨bxQuestion, bxAnswer⟩ : Mark)).map fun r => .b r := by
  rw [CP_eq]
  simp -dsimp +contextual only [↓evA, eZ, Nat.reduceAdd, Nat.reduceMul, Nat.reduceBEq, Nat.reduceLeDiff, Nat.reduceLT, Tryz.func139, Tryz.f139, a139]
  try simp only [laws_eqMark, eY]
  all_goals rfl
theorem e_laws_eqMarkS_l4 (n : Nat) {R1} {a : List Mark} {R2} {b : List Mark} (i : Int) [H1 : EncL cMark R1 a] [H2 : EncL cMark R2 b] : LP T (n + 2) 39 4 (frm [(0, .imm 2 R1), (1, .imm 2 R2), (5, .i .i64 i)]) [] =
    lmap (run (laws_eqMarkS_l4 a b) i) (fun (zr : Bool) => (XE.ret, frm [(4, .b zr)], [])) (fun (zr : Unit) => (XE.exit 0, frm [], [])) := by
  rcases H1, H2 with ⟨⟨rfl⟩, ⟨rfl⟩⟩
  rw [LP_eq]
  simp -dsimp only [↓evA, evB, lpG_eq, Tryz.func39, Tryz.f39, a39, TP, TZ, Nat.reduceAdd, Nat.reduceMul, Nat.reduceBEq, Nat.reduceLeDiff, Nat.reduceLT]
  refine run_map (fun (zs : Int) => (frm [(0, .imm 2 (a.map cMark)), (1, .imm 2 (b.map cMark)), (5, .i .i64 zs)], [])) (evO (fun (zr : Bool) => (XE.ret, frm [(4, .b zr)], [])) (fun (zr : Unit) => (XE.exit 0, frm [], []))) ?_ i
  intro i
  simp -dsimp +contextual only [↓evA, eZ, Nat.reduceAdd, Nat.reduceMul, Nat.reduceBEq, Nat.reduceLeDiff, Nat.reduceLT, e_laws_eqMark]
  try simp only [laws_eqMarkS_l4, eY]
  all_goals rfl
theorem e_laws_eqMarkS (n : Nat) {R1} {a : List Mark} {R2} {b : List Mark} [H1 : EncL cMark R1 a] [H2 : EncL cMark R2 b] : CP T (n + 3) 39 [.imm 2 R1, .imm 2 R2] = (laws_eqMarkS a b).map fun r => .b r := by
  rcases H1, H2 with ⟨⟨rfl⟩, ⟨rfl⟩⟩
  rw [CP_eq]
  simp -dsimp +contextual only [↓evA, eZ, Nat.reduceAdd, Nat.reduceMul, Nat.reduceBEq, Nat.reduceLeDiff, Nat.reduceLT, Tryz.func39, Tryz.f39, a39, e_laws_eqMarkS_l4]
  try simp only [laws_eqMarkS, eY]
  all_goals rfl
theorem e_laws_eqSecret (n : Nat) (axThing : Int) {R1} {axMarks : List Mark} (axSalt : Int) (bxThing : Int) {R2} {bxMarks : List Mark} (bxSalt : Int) [H1 : EncL cMark R1 axMarks] [H2 : EncL cMark R2 bxMarks] : CP T (n + 4) 165 [.agg [.i .i64 axThing, .imm 2 R1, .i .i64 axSalt], .agg [.i .i64 bxThing, .imm 2 R2, .i .i64 bxSalt]] = (laws_eqSecret (⟨axThing, axMarks, axSalt⟩ : Secret) (⟨bxThing, bxMarks, bxSalt⟩ : Secret)).map fun r => .b r := by
  rcases H1, H2 with ⟨⟨rfl⟩, ⟨rfl⟩⟩
  rw [CP_eq]
  simp -dsimp +contextual only [↓evA, eZ, Nat.reduceAdd, Nat.reduceMul, Nat.reduceBEq, Nat.reduceLeDiff, Nat.reduceLT, Tryz.func165, Tryz.f165, a165, e_laws_eqMarkS]
  try simp only [laws_eqSecret, eY]
  all_goals rfl
theorem e_laws_eqSecretS_l4 (n : Nat) {R1} {a : List Secret} {R2} {b : List Secret} (i : Int) [H1 : EncL cSecret R1 a] [H2 : EncL cSecret R2 b] : LP T (n + 5) 66 4 (frm [(0, .imm 3 R1), (1, .imm 3 R2), (5, .i .i64 i)]) [] =
    lmap (run (laws_eqSecretS_l4 a b) i) (fun (zr : Bool) => (XE.ret, frm [(4, .b zr)], [])) (fun (zr : Unit) => (XE.exit 0, frm [], [])) := by
  rcases H1, H2 with ⟨⟨rfl⟩, ⟨rfl⟩⟩
  rw [LP_eq]
  simp -dsimp only [↓evA, evB, lpG_eq, Tryz.func66, Tryz.f66, a66, TP, TZ, Nat.reduceAdd, Nat.reduceMul, Nat.reduceBEq, Nat.reduceLeDiff, Nat.reduceLT]
  refine run_map (fun (zs : Int) => (frm [(0, .imm 3 (a.map cSecret)), (1, .imm 3 (b.map cSecret)), (5, .i .i64 zs)], [])) (evO (fun (zr : Bool) => (XE.ret, frm [(4, .b zr)], [])) (fun (zr : Unit) => (XE.exit 0, frm [], []))) ?_ i
  intro i
  simp -dsimp +contextual only [↓evA, eZ, Nat.reduceAdd, Nat.reduceMul, Nat.reduceBEq, Nat.reduceLeDiff, Nat.reduceLT, e_laws_eqSecret]
  try simp only [laws_eqSecretS_l4, eY]
  all_goals rfl
theorem e_laws_eqSecretS (n : Nat) {R1} {a : List Secret} {R2} {b : List Secret} [H1 : EncL cSecret R1 a] [H2 : EncL cSecret R2 b] : CP T (n + 6) 66 [.imm 3 R1, .imm 3 R2] = (laws_eqSecretS a b).map fun r => .b r := by
  rcases H1, H2 with ⟨⟨rfl⟩, ⟨rfl⟩⟩
  rw [CP_eq]
  simp -dsimp +contextual only [↓evA, eZ, Nat.reduceAdd, Nat.reduceMul, Nat.reduceBEq, Nat.reduceLeDiff, Nat.reduceLT, Tryz.func66, Tryz.f66, a66, e_laws_eqSecretS_l4]
  try simp only [laws_eqSecretS, eY]
  all_goals rfl
theorem e_laws_eqSlot (n : Nat) (axId : Int) (axSize : Int) (axThing : Int) (bxId : Int) (bxSize : Int) (bxThing : Int) : CP T (n + 1) 71 [.agg [.i .i64 axId, .i .i64 axSize, .i .i64 axThing], .agg [.i .i64 bxId, .i .i64 bxSize, .i .i64 bxThing]] = (laws_eqSlot (⟨axId, axSize, axThing⟩ : Slot) (⟨bxId, bxSize, bxThing⟩ : Slot)).map fun r => .b r := by
  rw [CP_eq]
  simp -dsimp +contextual only [↓evA, eZ, Nat.reduceAdd, Nat.reduceMul, Nat.reduceBEq, Nat.reduceLeDiff, Nat.reduceLT, Tryz.func71, Tryz.f71, a71]
  try simp only [laws_eqSlot, eY]
  all_goals rfl
theorem e_laws_eqSlotS_l4 (n : Nat) {R1} {a : List Slot} {R2} {b : List Slot} (i : Int) [H1 : EncL cSlot R1 a] [H2 : EncL cSlot R2 b] : LP T (n + 2) 18 4 (frm [(0, .imm 3 R1), (1, .imm 3 R2), (5, .i .i64 i)]) [] =
    lmap (run (laws_eqSlotS_l4 a b) i) (fun (zr : Bool) => (XE.ret, frm [(4, .b zr)], [])) (fun (zr : Unit) => (XE.exit 0, frm [], [])) := by
  rcases H1, H2 with ⟨⟨rfl⟩, ⟨rfl⟩⟩
  rw [LP_eq]
  simp -dsimp only [↓evA, evB, lpG_eq, Tryz.func18, Tryz.f18, a18, TP, TZ, Nat.reduceAdd, Nat.reduceMul, Nat.reduceBEq, Nat.reduceLeDiff, Nat.reduceLT]
  refine run_map (fun (zs : Int) => (frm [(0, .imm 3 (a.map cSlot)), (1, .imm 3 (b.map cSlot)), (5, .i .i64 zs)], [])) (evO (fun (zr : Bool) => (XE.ret, frm [(4, .b zr)], [])) (fun (zr : Unit) => (XE.exit 0, frm [], []))) ?_ i
  intro i
  simp -dsimp +contextual only [↓evA, eZ, Nat.reduceAdd, Nat.reduceMul, Nat.reduceBEq, Nat.reduceLeDiff, Nat.reduceLT, e_laws_eqSlot]
  try simp only [laws_eqSlotS_l4, eY]
  all_goals rfl
theorem e_laws_eqSlotS (n : Nat) {R1} {a : List Slot} {R2} {b : List Slot} [H1 : EncL cSlot R1 a] [H2 : EncL cSlot R2 b] : CP T (n + 3) 18 [.imm 3 R1, .imm 3 R2] = (laws_eqSlotS a b).map fun r => .b r := by
  rcases H1, H2 with ⟨⟨rfl⟩, ⟨rfl⟩⟩
  rw [CP_eq]
  simp -dsimp +contextual only [↓evA, eZ, Nat.reduceAdd, Nat.reduceMul, Nat.reduceBEq, Nat.reduceLeDiff, Nat.reduceLT, Tryz.func18, Tryz.f18, a18, e_laws_eqSlotS_l4]
  try simp only [laws_eqSlotS, eY]
  all_goals rfl
theorem e_laws_eqClaim (n : Nat) (axId : Int) (axWho : Int) (axThing : Int) (axAt : Int) (axState : Int) (bxId : Int) (bxWho : Int) (bxThing : Int) (bxAt : Int) (bxState : Int) : CP T (n + 1) 166 [.agg [.i .i64 axId, .i .i64 axWho, .i .i64 axThing, .i .i64 axAt, .i .i64 axState], .agg [.i .i64 bxId, .i .i64 bxWho, .i .i64 bxThing, .i .i64 bxAt, .i .i64 bxState]] = (laws_eqClaim (⟨axId, axWho, axThing, axAt, axState⟩ : Claim) (⟨bxId, bxWho, bxThing, bxAt, bxState⟩ : Claim)).map fun r => .b r := by
  rw [CP_eq]
  simp -dsimp +contextual only [↓evA, eZ, Nat.reduceAdd, Nat.reduceMul, Nat.reduceBEq, Nat.reduceLeDiff, Nat.reduceLT, Tryz.func166, Tryz.f166, a166]
  try simp only [laws_eqClaim, eY]
  all_goals rfl
theorem e_laws_eqClaimS_l4 (n : Nat) {R1} {a : List Claim} {R2} {b : List Claim} (i : Int) [H1 : EncL cClaim R1 a] [H2 : EncL cClaim R2 b] : LP T (n + 2) 67 4 (frm [(0, .imm 5 R1), (1, .imm 5 R2), (5, .i .i64 i)]) [] =
    lmap (run (laws_eqClaimS_l4 a b) i) (fun (zr : Bool) => (XE.ret, frm [(4, .b zr)], [])) (fun (zr : Unit) => (XE.exit 0, frm [], [])) := by
  rcases H1, H2 with ⟨⟨rfl⟩, ⟨rfl⟩⟩
  rw [LP_eq]
  simp -dsimp only [↓evA, evB, lpG_eq, Tryz.func67, Tryz.f67, a67, TP, TZ, Nat.reduceAdd, Nat.reduceMul, Nat.reduceBEq, Nat.reduceLeDiff, Nat.reduceLT]
  refine run_map (fun (zs : Int) => (frm [(0, .imm 5 (a.map cClaim)), (1, .imm 5 (b.map cClaim)), (5, .i .i64 zs)], [])) (evO (fun (zr : Bool) => (XE.ret, frm [(4, .b zr)], [])) (fun (zr : Unit) => (XE.exit 0, frm [], []))) ?_ i
  intro i
  simp -dsimp +contextual only [↓evA, eZ, Nat.reduceAdd, Nat.reduceMul, Nat.reduceBEq, Nat.reduceLeDiff, Nat.reduceLT, e_laws_eqClaim]
  try simp only [laws_eqClaimS_l4, eY]
  all_goals rfl
theorem e_laws_eqClaimS (n : Nat) {R1} {a : List Claim} {R2} {b : List Claim} [H1 : EncL cClaim R1 a] [H2 : EncL cClaim R2 b] : CP T (n + 3) 67 [.imm 5 R1, .imm 5 R2] = (laws_eqClaimS a b).map fun r => .b r := by
  rcases H1, H2 with ⟨⟨rfl⟩, ⟨rfl⟩⟩
  rw [CP_eq]
  simp -dsimp +contextual only [↓evA, eZ, Nat.reduceAdd, Nat.reduceMul, Nat.reduceBEq, Nat.reduceLeDiff, Nat.reduceLT, Tryz.func67, Tryz.f67, a67, e_laws_eqClaimS_l4]
  try simp only [laws_eqClaimS, eY]
  all_goals rfl
theorem e_laws_eqTrial (n : Nat) (axClaim : Int) (axAsked : Int) (axRight : Int) (axWrong : Int) (bxClaim : Int) (bxAsked : Int) (bxRight : Int) (bxWrong : Int) : CP T (n + 1) 167 [.agg [.i .i64 axClaim, .i .i64 axAsked, .i .i64 axRight, .i .i64 axWrong], .agg [.i .i64 bxClaim, .i .i64 bxAsked, .i .i64 bxRight, .i .i64 bxWrong]] = (laws_eqTrial (⟨axClaim, axAsked, axRight, axWrong⟩ : Trial) (⟨bxClaim, bxAsked, bxRight, bxWrong⟩ : Trial)).map fun r => .b r := by
  rw [CP_eq]
  simp -dsimp +contextual only [↓evA, eZ, Nat.reduceAdd, Nat.reduceMul, Nat.reduceBEq, Nat.reduceLeDiff, Nat.reduceLT, Tryz.func167, Tryz.f167, a167]
  try simp only [laws_eqTrial, eY]
  all_goals rfl
theorem e_laws_eqTrialS_l4 (n : Nat) {R1} {a : List Trial} {R2} {b : List Trial} (i : Int) [H1 : EncL cTrial R1 a] [H2 : EncL cTrial R2 b] : LP T (n + 2) 68 4 (frm [(0, .imm 4 R1), (1, .imm 4 R2), (5, .i .i64 i)]) [] =
    lmap (run (laws_eqTrialS_l4 a b) i) (fun (zr : Bool) => (XE.ret, frm [(4, .b zr)], [])) (fun (zr : Unit) => (XE.exit 0, frm [], [])) := by
  rcases H1, H2 with ⟨⟨rfl⟩, ⟨rfl⟩⟩
  rw [LP_eq]
  simp -dsimp only [↓evA, evB, lpG_eq, Tryz.func68, Tryz.f68, a68, TP, TZ, Nat.reduceAdd, Nat.reduceMul, Nat.reduceBEq, Nat.reduceLeDiff, Nat.reduceLT]
  refine run_map (fun (zs : Int) => (frm [(0, .imm 4 (a.map cTrial)), (1, .imm 4 (b.map cTrial)), (5, .i .i64 zs)], [])) (evO (fun (zr : Bool) => (XE.ret, frm [(4, .b zr)], [])) (fun (zr : Unit) => (XE.exit 0, frm [], []))) ?_ i
  intro i
  simp -dsimp +contextual only [↓evA, eZ, Nat.reduceAdd, Nat.reduceMul, Nat.reduceBEq, Nat.reduceLeDiff, Nat.reduceLT, e_laws_eqTrial]
  try simp only [laws_eqTrialS_l4, eY]
  all_goals rfl
end Go.Proofs.YtcdffihcfeajfaaGreat
