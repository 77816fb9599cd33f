/- The functions of the program come to the typed ones. No condition. -/
import Derived.Test.YtcdffihcfeajfaaGreatEq1
namespace Go.Proofs.YtcdffihcfeajfaaGreat
open Go Go.Proofs Go.Proofs.YtcdffihcfeajfaaGreat.Am
set_option maxHeartbeats 4000000
set_option linter.unusedVariables false
set_option linter.unusedSimpArgs false
set_option linter.defProp false
set_option maxRecDepth 100000
theorem e_spec_AddHand (n : Nat) {R1} {l : List Hand} (xxThing : Int) (xxHolder : Int) (xxWho : Int) (xxAt : Int) (xxSeal : Int) [H1 : EncL cHand R1 l] : CP T (n + 8) 132 [.imm 5 R1, .agg [.i .i64 xxThing, .i .i64 xxHolder, .i .i64 xxWho, .i .i64 xxAt, .i .i64 xxSeal]] = (spec_AddHand l (⟨xxThing, xxHolder, xxWho, xxAt, xxSeal⟩ : Hand)).map fun r => .tup [.own 5 (r.1.map cHand), .b r.2] := by
  obtain ⟨rfl⟩ := H1
  rw [CP_eq]
  simp -dsimp +contextual only [↓evA, eZ, Nat.reduceAdd, Nat.reduceMul, Nat.reduceBEq, Nat.reduceLeDiff, Nat.reduceLT, Tryz.func132, Tryz.f132, a132, e_spec_HandSeal, e_spec_IsChain]
  try simp only [spec_AddHand, eY]
  try simp only [List.contains_nil, Bool.not_false, Bool.and_true, e_need_t, List.length_append, List.length_cons, List.length_nil, Nat.zero_add, need_comm, oeq_self]
  all_goals first | rfl | (simp +contextual only [evN] <;> rfl)
theorem e_spec_AreClaims_l8 (n : Nat) {R1} {l : List Claim} (t3 : Int) (t4xId : Int) (t4xWho : Int) (t4xThing : Int) (t4xAt : Int) (t4xState : Int) (t5 : Int) [H1 : EncL cClaim R1 l] : LP T (n + 1) 151 8 (frm [(0, .imm 5 R1), (3, .i .i64 t3), (4, .ptr 0 0 0), (5, .i .i64 t5)]) [some (Ent.box [.i .i64 t4xId, .i .i64 t4xWho, .i .i64 t4xThing, .i .i64 t4xAt, .i .i64 t4xState])] =
    lmap (run (spec_AreClaims_l8 l t3 (⟨t4xId, t4xWho, t4xThing, t4xAt, t4xState⟩ : Claim)) t5) (fun (zr : Bool) => (XE.ret, frm [(2, .b zr)], [])) (fun (zr : Unit) => (XE.exit 2, frm [(0, .imm 5 (l.map cClaim)), (3, .i .i64 t3)], [])) := by
  obtain ⟨rfl⟩ := H1
  rw [LP_eq]
  simp -dsimp only [↓evA, evB, lpG_eq, Tryz.func151, Tryz.f151, a151, TP, TZ, Nat.reduceAdd, Nat.reduceMul, Nat.reduceBEq, Nat.reduceLeDiff, Nat.reduceLT]
  refine run_map (fun (zs : Int) => (frm [(0, .imm 5 (l.map cClaim)), (3, .i .i64 t3), (4, .ptr 0 0 0), (5, .i .i64 zs)], [some (Ent.box [.i .i64 t4xId, .i .i64 t4xWho, .i .i64 t4xThing, .i .i64 t4xAt, .i .i64 t4xState])])) (evO (fun (zr : Bool) => (XE.ret, frm [(2, .b zr)], [])) (fun (zr : Unit) => (XE.exit 2, frm [(0, .imm 5 (l.map cClaim)), (3, .i .i64 t3)], []))) ?_ t5
  intro t5
  simp -dsimp +contextual only [↓evA, eZ, Nat.reduceAdd, Nat.reduceMul, Nat.reduceBEq, Nat.reduceLeDiff, Nat.reduceLT]
  try simp only [spec_AreClaims_l8, eY]
  all_goals rfl
theorem e_spec_AreClaims_l2 (n : Nat) {R1} {l : List Claim} (t3 : Int) [H1 : EncL cClaim R1 l] : LP T (n + 2) 151 2 (frm [(0, .imm 5 R1), (3, .i .i64 t3)]) [] =
    lmap (run (spec_AreClaims_l2 l) t3) (fun (zr : Bool) => (XE.ret, frm [(2, .b zr)], [])) (fun (zr : Unit) => (XE.exit 0, frm [(0, .imm 5 (l.map cClaim))], [])) := by
  obtain ⟨rfl⟩ := H1
  rw [LP_eq]
  simp -dsimp only [↓evA, evB, lpG_eq, Tryz.func151, Tryz.f151, a151, TP, TZ, Nat.reduceAdd, Nat.reduceMul, Nat.reduceBEq, Nat.reduceLeDiff, Nat.reduceLT]
  refine run_map (fun (zs : Int) => (frm [(0, .imm 5 (l.map cClaim)), (3, .i .i64 zs)], [])) (evO (fun (zr : Bool) => (XE.ret, frm [(2, .b zr)], [])) (fun (zr : Unit) => (XE.exit 0, frm [(0, .imm 5 (l.map cClaim))], []))) ?_ t3
  intro t3
  simp -dsimp +contextual only [↓evA, eZ, Nat.reduceAdd, Nat.reduceMul, Nat.reduceBEq, Nat.reduceLeDiff, Nat.reduceLT, e_spec_l1In, e_spec_AreClaims_l8]
  try simp only [spec_AreClaims_l2, eY]
  all_goals rfl
theorem e_spec_AreClaims (n : Nat) {R1} {l : List Claim} [H1 : EncL cClaim R1 l] : CP T (n + 3) 151 [.imm 5 R1] = (spec_AreClaims l).map fun r => .b r := by
  obtain ⟨rfl⟩ := H1
  rw [CP_eq]
  simp -dsimp +contextual only [↓evA, eZ, Nat.reduceAdd, Nat.reduceMul, Nat.reduceBEq, Nat.reduceLeDiff, Nat.reduceLT, Tryz.func151, Tryz.f151, a151, e_spec_AreClaims_l2]
  try simp only [spec_AreClaims, eY]
  all_goals rfl
theorem e_spec_AreEntries_l2 (n : Nat) {R1} {l : List Entry} (i : Int) [H1 : EncL cEntry R1 l] : LP T (n + 2) 153 2 (frm [(0, .imm 4 R1), (3, .i .i64 i)]) [] =
    lmap (run (spec_AreEntries_l2 l) i) (fun (zr : Bool) => (XE.ret, frm [(2, .b zr)], [])) (fun (zr : Unit) => (XE.exit 0, frm [(0, .imm 4 (l.map cEntry))], [])) := by
  obtain ⟨rfl⟩ := H1
  rw [LP_eq]
  simp -dsimp only [↓evA, evB, lpG_eq, Tryz.func153, Tryz.f153, a153, TP, TZ, Nat.reduceAdd, Nat.reduceMul, Nat.reduceBEq, Nat.reduceLeDiff, Nat.reduceLT]
  refine run_map (fun (zs : Int) => (frm [(0, .imm 4 (l.map cEntry)), (3, .i .i64 zs)], [])) (evO (fun (zr : Bool) => (XE.ret, frm [(2, .b zr)], [])) (fun (zr : Unit) => (XE.exit 0, frm [(0, .imm 4 (l.map cEntry))], []))) ?_ i
  intro i
  simp -dsimp +contextual only [↓evA, eZ, Nat.reduceAdd, Nat.reduceMul, Nat.reduceBEq, Nat.reduceLeDiff, Nat.reduceLT, e_spec_l1In]
  try simp only [spec_AreEntries_l2, eY]
  all_goals rfl
theorem e_spec_AreEntries (n : Nat) {R1} {l : List Entry} [H1 : EncL cEntry R1 l] : CP T (n + 3) 153 [.imm 4 R1] = (spec_AreEntries l).map fun r => .b r := by
  obtain ⟨rfl⟩ := H1
  rw [CP_eq]
  simp -dsimp +contextual only [↓evA, eZ, Nat.reduceAdd, Nat.reduceMul, Nat.reduceBEq, Nat.reduceLeDiff, Nat.reduceLT, Tryz.func153, Tryz.f153, a153, e_spec_AreEntries_l2]
  try simp only [spec_AreEntries, eY]
  all_goals rfl
theorem e_spec_l9Put_l2 (n : Nat) {R1} {l : List Int} (vn : Int) (k : Int) [H1 : EncL c_i64 R1 l] : LP T (n + 1) 264 2 (frm [(0, .imm 1 R1), (1, .i .i64 vn), (5, .i .i64 k)]) [] =
    (run (spec_l9Put_l2 l vn) k).map (fun (zr : Int) => (XE.exit 0, frm [(0, .imm 1 (l.map c_i64)), (1, .i .i64 vn), (5, .i .i64 zr)], [])) := by
  obtain ⟨rfl⟩ := H1
  rw [LP_eq]
  simp -dsimp only [↓evA, evB, lpG_eq, Tryz.func264, Tryz.f264, a264, TP, TZ, Nat.reduceAdd, Nat.reduceMul, Nat.reduceBEq, Nat.reduceLeDiff, Nat.reduceLT]
  refine run_map (fun (zs : Int) => (frm [(0, .imm 1 (l.map c_i64)), (1, .i .i64 vn), (5, .i .i64 zs)], [])) (fun (zr : Int) => (XE.exit 0, frm [(0, .imm 1 (l.map c_i64)), (1, .i .i64 vn), (5, .i .i64 zr)], [])) ?_ k
  intro k
  simp -dsimp +contextual only [↓evA, eZ, Nat.reduceAdd, Nat.reduceMul, Nat.reduceBEq, Nat.reduceLeDiff, Nat.reduceLT]
  try simp only [spec_l9Put_l2, eY]
  try simp only [List.contains_nil, Bool.not_false, Bool.and_true, e_need_t, List.length_append, List.length_cons, List.length_nil, Nat.zero_add, need_comm, oeq_self]
  all_goals rfl
theorem e_spec_l9Put (n : Nat) {R1} {l : List Int} (vn : Int) [H1 : EncL c_i64 R1 l] : CP T (n + 2) 264 [.imm 1 R1, .i .i64 vn] = (spec_l9Put l vn).map fun r => .own 1 (r.map c_i64) := by
  obtain ⟨rfl⟩ := H1
  rw [CP_eq]
  simp -dsimp +contextual only [↓evA, eZ, Nat.reduceAdd, Nat.reduceMul, Nat.reduceBEq, Nat.reduceLeDiff, Nat.reduceLT, Tryz.func264, Tryz.f264, a264, e_spec_l9Put_l2]
  try simp only [spec_l9Put, eY]
  try simp only [List.contains_nil, Bool.not_false, Bool.and_true, e_need_t, List.length_append, List.length_cons, List.length_nil, Nat.zero_add, need_comm, oeq_self]
  all_goals first | rfl | (simp +contextual only [evN] <;> rfl)
theorem e_spec_InHouse_l3 (n : Nat) {R1} {l : List Hand} (house : Int) {R2} {out : List Int} (i : Int) [H1 : EncL cHand R1 l] [H2 : EncL c_i64 R2 out] : LP T (n + 8) 231 3 (frm [(0, .imm 5 R1), (1, .i .i64 house), (5, .sl 0), (6, .i .i64 i)]) [some (Ent.lst 1 R2)] =
    (run (spec_InHouse_l3 l house) (out, i)).map (fun (zr : (List Int)) => (XE.exit 0, frm [(5, .sl 0)], [some (Ent.lst 1 (zr.map c_i64))])) := by
  rcases H1, H2 with ⟨⟨rfl⟩, ⟨rfl⟩⟩
  rw [LP_eq]
  simp -dsimp only [↓evA, evB, lpG_eq, Tryz.func231, Tryz.f231, a231, TP, TZ, Nat.reduceAdd, Nat.reduceMul, Nat.reduceBEq, Nat.reduceLeDiff, Nat.reduceLT]
  refine run_map (fun (zs : (List Int) × Int) => (frm [(0, .imm 5 (l.map cHand)), (1, .i .i64 house), (5, .sl 0), (6, .i .i64 zs.2)], [some (Ent.lst 1 (zs.1.map c_i64))])) (fun (zr : (List Int)) => (XE.exit 0, frm [(5, .sl 0)], [some (Ent.lst 1 (zr.map c_i64))])) ?_ (out, i)
  rintro ⟨out, i⟩
  simp -dsimp +contextual only [↓evA, eZ, Nat.reduceAdd, Nat.reduceMul, Nat.reduceBEq, Nat.reduceLeDiff, Nat.reduceLT, e_spec_IsChain, e_spec_l16Last, e_spec_l9Put]
  try simp only [spec_InHouse_l3, eY]
  all_goals rfl
theorem e_spec_InHouse (n : Nat) {R1} {l : List Hand} (house : Int) [H1 : EncL cHand R1 l] : CP T (n + 9) 231 [.imm 5 R1, .i .i64 house] = (spec_InHouse l house).map fun r => .own 1 (r.map c_i64) := by
  obtain ⟨rfl⟩ := H1
  rw [CP_eq]
  simp -dsimp +contextual only [↓evA, eZ, Nat.reduceAdd, Nat.reduceMul, Nat.reduceBEq, Nat.reduceLeDiff, Nat.reduceLT, Tryz.func231, Tryz.f231, a231, e_spec_InHouse_l3]
  try simp only [spec_InHouse, eY]
  all_goals first | rfl | (simp +contextual only [evN] <;> rfl)
theorem e_spec_FindThing_l2 (n : Nat) {R1} {l : List Find} (id : Int) (i : Int) [H1 : EncL cFind R1 l] : LP T (n + 1) 117 2 (frm [(0, .imm 8 R1), (1, .i .i64 id), (5, .i .i64 i)]) [] =
    lmap (run (spec_FindThing_l2 l id) i) (fun (zr : Int) => (XE.ret, frm [(4, .i .i64 zr)], [])) (fun (zr : Unit) => (XE.exit 0, frm [], [])) := by
  obtain ⟨rfl⟩ := H1
  rw [LP_eq]
  simp -dsimp only [↓evA, evB, lpG_eq, Tryz.func117, Tryz.f117, a117, TP, TZ, Nat.reduceAdd, Nat.reduceMul, Nat.reduceBEq, Nat.reduceLeDiff, Nat.reduceLT]
  refine run_map (fun (zs : Int) => (frm [(0, .imm 8 (l.map cFind)), (1, .i .i64 id), (5, .i .i64 zs)], [])) (evO (fun (zr : Int) => (XE.ret, frm [(4, .i .i64 zr)], [])) (fun (zr : Unit) => (XE.exit 0, frm [], []))) ?_ i
  intro i
  simp -dsimp +contextual only [↓evA, eZ, Nat.reduceAdd, Nat.reduceMul, Nat.reduceBEq, Nat.reduceLeDiff, Nat.reduceLT]
  try simp only [spec_FindThing_l2, eY]
  all_goals rfl
theorem e_spec_FindThing (n : Nat) {R1} {l : List Find} (id : Int) [H1 : EncL cFind R1 l] : CP T (n + 2) 117 [.imm 8 R1, .i .i64 id] = (spec_FindThing l id).map fun r => .i .i64 r := by
  obtain ⟨rfl⟩ := H1
  rw [CP_eq]
  simp -dsimp +contextual only [↓evA, eZ, Nat.reduceAdd, Nat.reduceMul, Nat.reduceBEq, Nat.reduceLeDiff, Nat.reduceLT, Tryz.func117, Tryz.f117, a117, e_spec_FindThing_l2]
  try simp only [spec_FindThing, eY]
  all_goals rfl
theorem e_spec_l8Has_l2 (n : Nat) {R1} {l : List Int} (vn : Int) (i : Int) [H1 : EncL c_i64 R1 l] : LP T (n + 1) 232 2 (frm [(0, .imm 1 R1), (1, .i .i64 vn), (5, .i .i64 i)]) [] =
    lmap (run (spec_l8Has_l2 l vn) i) (fun (zr : Bool) => (XE.ret, frm [(4, .b zr)], [])) (fun (zr : Unit) => (XE.exit 0, frm [], [])) := by
  obtain ⟨rfl⟩ := H1
  rw [LP_eq]
  simp -dsimp only [↓evA, evB, lpG_eq, Tryz.func232, Tryz.f232, a232, TP, TZ, Nat.reduceAdd, Nat.reduceMul, Nat.reduceBEq, Nat.reduceLeDiff, Nat.reduceLT]
  refine run_map (fun (zs : Int) => (frm [(0, .imm 1 (l.map c_i64)), (1, .i .i64 vn), (5, .i .i64 zs)], [])) (evO (fun (zr : Bool) => (XE.ret, frm [(4, .b zr)], [])) (fun (zr : Unit) => (XE.exit 0, frm [], []))) ?_ i
  intro i
  simp -dsimp +contextual only [↓evA, eZ, Nat.reduceAdd, Nat.reduceMul, Nat.reduceBEq, Nat.reduceLeDiff, Nat.reduceLT]
  try simp only [spec_l8Has_l2, eY]
  all_goals rfl
theorem e_spec_l8Has (n : Nat) {R1} {l : List Int} (vn : Int) [H1 : EncL c_i64 R1 l] : CP T (n + 2) 232 [.imm 1 R1, .i .i64 vn] = (spec_l8Has l vn).map fun r => .b r := by
  obtain ⟨rfl⟩ := H1
  rw [CP_eq]
  simp -dsimp +contextual only [↓evA, eZ, Nat.reduceAdd, Nat.reduceMul, Nat.reduceBEq, Nat.reduceLeDiff, Nat.reduceLT, Tryz.func232, Tryz.f232, a232, e_spec_l8Has_l2]
  try simp only [spec_l8Has, eY]
  all_goals rfl
theorem e_spec_l33Things_l5 (n : Nat) (t1xNo : Int) {R1} {t1xFinds : List Find} {R2} {t1xSecrets : List Secret} {R3} {t1xSlots : List Slot} {R4} {t1xClaims : List Claim} {R5} {t1xTrials : List Trial} {R6} {t1xChain : List Hand} {R7} {t1xBook : List Entry} (t1xNow : Int) {R8} {t3 : List Int} (t4 : Int) [H1 : EncL cFind R1 t1xFinds] [H2 : EncL cSecret R2 t1xSecrets] [H3 : EncL cSlot R3 t1xSlots] [H4 : EncL cClaim R4 t1xClaims] [H5 : EncL cTrial R5 t1xTrials] [H6 : EncL cHand R6 t1xChain] [H7 : EncL cEntry R7 t1xBook] [H8 : EncL c_i64 R8 t3] : LP T (n + 3) 154 5 (frm [(1, .ptr 0 0 0), (3, .sl 1), (4, .i .i64 t4)]) [some (Ent.box [.i .i64 t1xNo, .imm 8 R1, .imm 3 R2, .imm 3 R3, .imm 5 R4, .imm 4 R5, .imm 5 R6, .imm 4 R7, .i .i64 t1xNow]), some (Ent.lst 1 R8)] =
    lmap (run (spec_l33Things_l5 (⟨t1xNo, t1xFinds, t1xSecrets, t1xSlots, t1xClaims, t1xTrials, t1xChain, t1xBook, t1xNow⟩ : House) t3) t4) (fun (zr : Bool) => (XE.ret, frm [(2, .b zr)], [])) (fun (zr : Unit) => (XE.exit 0, frm [(1, .ptr 0 0 0), (3, .sl 1)], [some (Ent.box [.i .i64 t1xNo, .imm 8 (t1xFinds.map cFind), .imm 3 (t1xSecrets.map cSecret), .imm 3 (t1xSlots.map cSlot), .imm 5 (t1xClaims.map cClaim), .imm 4 (t1xTrials.map cTrial), .imm 5 (t1xChain.map cHand), .imm 4 (t1xBook.map cEntry), .i .i64 t1xNow]), some (Ent.lst 1 (t3.map c_i64))])) := by
  rcases H1, H2, H3, H4, H5, H6, H7, H8 with ⟨⟨rfl⟩, ⟨rfl⟩, ⟨rfl⟩, ⟨rfl⟩, ⟨rfl⟩, ⟨rfl⟩, ⟨rfl⟩, ⟨rfl⟩⟩
  rw [LP_eq]
  simp -dsimp only [↓evA, evB, lpG_eq, Tryz.func154, Tryz.f154, a154, TP, TZ, Nat.reduceAdd, Nat.reduceMul, Nat.reduceBEq, Nat.reduceLeDiff, Nat.reduceLT]
  refine run_map (fun (zs : Int) => (frm [(1, .ptr 0 0 0), (3, .sl 1), (4, .i .i64 zs)], [some (Ent.box [.i .i64 t1xNo, .imm 8 (t1xFinds.map cFind), .imm 3 (t1xSecrets.map cSecret), .imm 3 (t1xSlots.map cSlot), .imm 5 (t1xClaims.map cClaim), .imm 4 (t1xTrials.map cTrial), .imm 5 (t1xChain.map cHand), .imm 4 (t1xBook.map cEntry), .i .i64 t1xNow]), some (Ent.lst 1 (t3.map c_i64))])) (evO (fun (zr : Bool) => (XE.ret, frm [(2, .b zr)], [])) (fun (zr : Unit) => (XE.exit 0, frm [(1, .ptr 0 0 0), (3, .sl 1)], [some (Ent.box [.i .i64 t1xNo, .imm 8 (t1xFinds.map cFind), .imm 3 (t1xSecrets.map cSecret), .imm 3 (t1xSlots.map cSlot), .imm 5 (t1xClaims.map cClaim), .imm 4 (t1xTrials.map cTrial), .imm 5 (t1xChain.map cHand), .imm 4 (t1xBook.map cEntry), .i .i64 t1xNow]), some (Ent.lst 1 (t3.map c_i64))]))) ?_ t4
  intro t4
  simp -dsimp +contextual (maxSteps := 100000000) only [↓evA, eZ, Nat.reduceAdd, Nat.reduceMul, Nat.reduceBEq, Nat.reduceLeDiff, Nat.reduceLT, e_spec_FindThing]
  try simp only [spec_l33Things_l5, eY]
  all_goals rfl
theorem e_spec_l33Things_l10 (n : Nat) (t1xNo : Int) {R1} {t1xFinds : List Find} {R2} {t1xSecrets : List Secret} {R3} {t1xSlots : List Slot} {R4} {t1xClaims : List Claim} {R5} {t1xTrials : List Trial} {R6} {t1xChain : List Hand} {R7} {t1xBook : List Entry} (t1xNow : Int) {R8} {t3 : List Int} (t5 : Int) [H1 : EncL cFind R1 t1xFinds] [H2 : EncL cSecret R2 t1xSecrets] [H3 : EncL cSlot R3 t1xSlots] [H4 : EncL cClaim R4 t1xClaims] [H5 : EncL cTrial R5 t1xTrials] [H6 : EncL cHand R6 t1xChain] [H7 : EncL cEntry R7 t1xBook] [H8 : EncL c_i64 R8 t3] : LP T (n + 3) 154 10 (frm [(1, .ptr 0 0 0), (3, .sl 1), (5, .i .i64 t5)]) [some (Ent.box [.i .i64 t1xNo, .imm 8 R1, .imm 3 R2, .imm 3 R3, .imm 5 R4, .imm 4 R5, .imm 5 R6, .imm 4 R7, .i .i64 t1xNow]), some (Ent.lst 1 R8)] =
    lmap (run (spec_l33Things_l10 (⟨t1xNo, t1xFinds, t1xSecrets, t1xSlots, t1xClaims, t1xTrials, t1xChain, t1xBook, t1xNow⟩ : House) t3) t5) (fun (zr : Bool) => (XE.ret, frm [(2, .b zr)], [])) (fun (zr : Unit) => (XE.exit 2, frm [(1, .ptr 0 0 0)], [some (Ent.box [.i .i64 t1xNo, .imm 8 (t1xFinds.map cFind), .imm 3 (t1xSecrets.map cSecret), .imm 3 (t1xSlots.map cSlot), .imm 5 (t1xClaims.map cClaim), .imm 4 (t1xTrials.map cTrial), .imm 5 (t1xChain.map cHand), .imm 4 (t1xBook.map cEntry), .i .i64 t1xNow])])) := by
  rcases H1, H2, H3, H4, H5, H6, H7, H8 with ⟨⟨rfl⟩, ⟨rfl⟩, ⟨rfl⟩, ⟨rfl⟩, ⟨rfl⟩, ⟨rfl⟩, ⟨rfl⟩, ⟨rfl⟩⟩
  rw [LP_eq]
  simp -dsimp only [↓evA, evB, lpG_eq, Tryz.func154, Tryz.f154, a154, TP, TZ, Nat.reduceAdd, Nat.reduceMul, Nat.reduceBEq, Nat.reduceLeDiff, Nat.reduceLT]
  refine run_map (fun (zs : Int) => (frm [(1, .ptr 0 0 0), (3, .sl 1), (5, .i .i64 zs)], [some (Ent.box [.i .i64 t1xNo, .imm 8 (t1xFinds.map cFind), .imm 3 (t1xSecrets.map cSecret), .imm 3 (t1xSlots.map cSlot), .imm 5 (t1xClaims.map cClaim), .imm 4 (t1xTrials.map cTrial), .imm 5 (t1xChain.map cHand), .imm 4 (t1xBook.map cEntry), .i .i64 t1xNow]), some (Ent.lst 1 (t3.map c_i64))])) (evO (fun (zr : Bool) => (XE.ret, frm [(2, .b zr)], [])) (fun (zr : Unit) => (XE.exit 2, frm [(1, .ptr 0 0 0)], [some (Ent.box [.i .i64 t1xNo, .imm 8 (t1xFinds.map cFind), .imm 3 (t1xSecrets.map cSecret), .imm 3 (t1xSlots.map cSlot), .imm 5 (t1xClaims.map cClaim), .imm 4 (t1xTrials.map cTrial), .imm 5 (t1xChain.map cHand), .imm 4 (t1xBook.map cEntry), .i .i64 t1xNow])]))) ?_ t5
  intro t5
  simp -dsimp +contextual (maxSteps := 100000000) only [↓evA, eZ, Nat.reduceAdd, Nat.reduceMul, Nat.reduceBEq, Nat.reduceLeDiff, Nat.reduceLT, e_spec_SlotOf, e_spec_l8Has]
  try simp only [spec_l33Things_l10, eY]
  all_goals rfl
theorem e_spec_l33Things_l16 (n : Nat) (t1xNo : Int) {R1} {t1xFinds : List Find} {R2} {t1xSecrets : List Secret} {R3} {t1xSlots : List Slot} {R4} {t1xClaims : List Claim} {R5} {t1xTrials : List Trial} {R6} {t1xChain : List Hand} {R7} {t1xBook : List Entry} (t1xNow : Int) (t7 : Int) [H1 : EncL cFind R1 t1xFinds] [H2 : EncL cSecret R2 t1xSecrets] [H3 : EncL cSlot R3 t1xSlots] [H4 : EncL cClaim R4 t1xClaims] [H5 : EncL cTrial R5 t1xTrials] [H6 : EncL cHand R6 t1xChain] [H7 : EncL cEntry R7 t1xBook] : LP T (n + 3) 154 16 (frm [(1, .ptr 0 0 0), (7, .i .i64 t7)]) [some (Ent.box [.i .i64 t1xNo, .imm 8 R1, .imm 3 R2, .imm 3 R3, .imm 5 R4, .imm 4 R5, .imm 5 R6, .imm 4 R7, .i .i64 t1xNow])] =
    lmap (run (spec_l33Things_l16 (⟨t1xNo, t1xFinds, t1xSecrets, t1xSlots, t1xClaims, t1xTrials, t1xChain, t1xBook, t1xNow⟩ : House)) t7) (fun (zr : Bool) => (XE.ret, frm [(2, .b zr)], [])) (fun (zr : Unit) => (XE.exit 4, frm [], [])) := by
  rcases H1, H2, H3, H4, H5, H6, H7 with ⟨⟨rfl⟩, ⟨rfl⟩, ⟨rfl⟩, ⟨rfl⟩, ⟨rfl⟩, ⟨rfl⟩, ⟨rfl⟩⟩
  rw [LP_eq]
  simp -dsimp only [↓evA, evB, lpG_eq, Tryz.func154, Tryz.f154, a154, TP, TZ, Nat.reduceAdd, Nat.reduceMul, Nat.reduceBEq, Nat.reduceLeDiff, Nat.reduceLT]
  refine run_map (fun (zs : Int) => (frm [(1, .ptr 0 0 0), (7, .i .i64 zs)], [some (Ent.box [.i .i64 t1xNo, .imm 8 (t1xFinds.map cFind), .imm 3 (t1xSecrets.map cSecret), .imm 3 (t1xSlots.map cSlot), .imm 5 (t1xClaims.map cClaim), .imm 4 (t1xTrials.map cTrial), .imm 5 (t1xChain.map cHand), .imm 4 (t1xBook.map cEntry), .i .i64 t1xNow])])) (evO (fun (zr : Bool) => (XE.ret, frm [(2, .b zr)], [])) (fun (zr : Unit) => (XE.exit 4, frm [], []))) ?_ t7
  intro t7
  simp -dsimp +contextual (maxSteps := 100000000) only [↓evA, eZ, Nat.reduceAdd, Nat.reduceMul, Nat.reduceBEq, Nat.reduceLeDiff, Nat.reduceLT, e_spec_FindThing]
  try simp only [spec_l33Things_l16, eY]
  all_goals rfl
theorem e_spec_l33Things (n : Nat) (vhxNo : Int) {R1} {vhxFinds : List Find} {R2} {vhxSecrets : List Secret} {R3} {vhxSlots : List Slot} {R4} {vhxClaims : List Claim} {R5} {vhxTrials : List Trial} {R6} {vhxChain : List Hand} {R7} {vhxBook : List Entry} (vhxNow : Int) [H1 : EncL cFind R1 vhxFinds] [H2 : EncL cSecret R2 vhxSecrets] [H3 : EncL cSlot R3 vhxSlots] [H4 : EncL cClaim R4 vhxClaims] [H5 : EncL cTrial R5 vhxTrials] [H6 : EncL cHand R6 vhxChain] [H7 : EncL cEntry R7 vhxBook] : CP T (n + 10) 154 [.agg [.i .i64 vhxNo, .imm 8 R1, .imm 3 R2, .imm 3 R3, .imm 5 R4, .imm 4 R5, .imm 5 R6, .imm 4 R7, .i .i64 vhxNow]] = (spec_l33Things (⟨vhxNo, vhxFinds, vhxSecrets, vhxSlots, vhxClaims, vhxTrials, vhxChain, vhxBook, vhxNow⟩ : House)).map fun r => .b r := by
  rcases H1, H2, H3, H4, H5, H6, H7 with ⟨⟨rfl⟩, ⟨rfl⟩, ⟨rfl⟩, ⟨rfl⟩, ⟨rfl⟩, ⟨rfl⟩, ⟨rfl⟩⟩
  rw [CP_eq]
  simp -dsimp +contextual (maxSteps := 100000000) only [↓evA, eZ, Nat.reduceAdd, Nat.reduceMul, Nat.reduceBEq, Nat.reduceLeDiff, Nat.reduceLT, Tryz.func154, Tryz.f154, a154, e_spec_InHouse, e_spec_l33Things_l5, e_spec_l33Things_l10, e_spec_l33Things_l16]
  try simp only [spec_l33Things, eY]
  all_goals rfl
theorem e_spec_IsTrial (n : Nat) (xxClaim : Int) (xxAsked : Int) (xxRight : Int) (xxWrong : Int) : CP T (n + 2) 187 [.agg [.i .i64 xxClaim, .i .i64 xxAsked, .i .i64 xxRight, .i .i64 xxWrong]] = (spec_IsTrial (⟨xxClaim, xxAsked, xxRight, xxWrong⟩ : Trial)).map fun r => .b r := by
  rw [CP_eq]
  simp -dsimp +contextual only [↓evA, eZ, Nat.reduceAdd, Nat.reduceMul, Nat.reduceBEq, Nat.reduceLeDiff, Nat.reduceLT, Tryz.func187, Tryz.f187, a187, e_spec_l1In]
  try simp only [spec_IsTrial, eY]
  all_goals rfl
theorem e_spec_l31Find_l2 (n : Nat) {R1} {l : List Secret} (thing : Int) (i : Int) [H1 : EncL cSecret R1 l] : LP T (n + 1) 184 2 (frm [(0, .imm 3 R1), (1, .i .i64 thing), (5, .i .i64 i)]) [] =
    lmap (run (spec_l31Find_l2 l thing) i) (fun (zr : Int) => (XE.ret, frm [(4, .i .i64 zr)], [])) (fun (zr : Unit) => (XE.exit 0, frm [], [])) := by
  obtain ⟨rfl⟩ := H1
  rw [LP_eq]
  simp -dsimp only [↓evA, evB, lpG_eq, Tryz.func184, Tryz.f184, a184, TP, TZ, Nat.reduceAdd, Nat.reduceMul, Nat.reduceBEq, Nat.reduceLeDiff, Nat.reduceLT]
  refine run_map (fun (zs : Int) => (frm [(0, .imm 3 (l.map cSecret)), (1, .i .i64 thing), (5, .i .i64 zs)], [])) (evO (fun (zr : Int) => (XE.ret, frm [(4, .i .i64 zr)], [])) (fun (zr : Unit) => (XE.exit 0, frm [], []))) ?_ i
  intro i
  simp -dsimp +contextual only [↓evA, eZ, Nat.reduceAdd, Nat.reduceMul, Nat.reduceBEq, Nat.reduceLeDiff, Nat.reduceLT]
  try simp only [spec_l31Find_l2, eY]
  all_goals rfl
theorem e_spec_l31Find (n : Nat) {R1} {l : List Secret} (thing : Int) [H1 : EncL cSecret R1 l] : CP T (n + 2) 184 [.imm 3 R1, .i .i64 thing] = (spec_l31Find l thing).map fun r => .i .i64 r := by
  obtain ⟨rfl⟩ := H1
  rw [CP_eq]
  simp -dsimp +contextual only [↓evA, eZ, Nat.reduceAdd, Nat.reduceMul, Nat.reduceBEq, Nat.reduceLeDiff, Nat.reduceLT, Tryz.func184, Tryz.f184, a184, e_spec_l31Find_l2]
  try simp only [spec_l31Find, eY]
  all_goals rfl
theorem e_spec_MarksOf (n : Nat) {R1} {l : List Secret} (thing : Int) [H1 : EncL cSecret R1 l] : CP T (n + 3) 103 [.imm 3 R1, .i .i64 thing] = (spec_MarksOf l thing).map fun r => .own 2 (r.map cMark) := by
  obtain ⟨rfl⟩ := H1
  rw [CP_eq]
  simp -dsimp +contextual only [↓evA, eZ, Nat.reduceAdd, Nat.reduceMul, Nat.reduceBEq, Nat.reduceLeDiff, Nat.reduceLT, Tryz.func103, Tryz.f103, a103, e_spec_l31Find]
  try simp only [spec_MarksOf, eY]
  all_goals first | rfl | (simp +contextual only [evN] <;> rfl)
theorem e_spec_Min (n : Nat) (a : Int) (b : Int) : CP T (n + 1) 209 [.i .i64 a, .i .i64 b] = (spec_Min a b).map fun r => .i .i64 r := by
  rw [CP_eq]
  simp -dsimp +contextual only [↓evA, eZ, Nat.reduceAdd, Nat.reduceMul, Nat.reduceBEq, Nat.reduceLeDiff, Nat.reduceLT, Tryz.func209, Tryz.f209, a209]
  try simp only [spec_Min, eY]
  all_goals rfl
theorem e_spec_NeedFor (n : Nat) {R1} {l : List Mark} [H1 : EncL cMark R1 l] : CP T (n + 2) 189 [.imm 2 R1] = (spec_NeedFor l).map fun r => .i .i64 r := by
  obtain ⟨rfl⟩ := H1
  rw [CP_eq]
  simp -dsimp +contextual only [↓evA, eZ, Nat.reduceAdd, Nat.reduceMul, Nat.reduceBEq, Nat.reduceLeDiff, Nat.reduceLT, Tryz.func189, Tryz.f189, a189, e_spec_Min]
  try simp only [spec_NeedFor, eY]
  all_goals rfl
theorem e_spec_TrialState (n : Nat) {R1} {l : List Mark} (xxClaim : Int) (xxAsked : Int) (xxRight : Int) (xxWrong : Int) [H1 : EncL cMark R1 l] : CP T (n + 4) 105 [.imm 2 R1, .agg [.i .i64 xxClaim, .i .i64 xxAsked, .i .i64 xxRight, .i .i64 xxWrong]] = (spec_TrialState l (⟨xxClaim, xxAsked, xxRight, xxWrong⟩ : Trial)).map fun r => .i .i64 r := by
  obtain ⟨rfl⟩ := H1
  rw [CP_eq]
  simp -dsimp +contextual only [↓evA, eZ, Nat.reduceAdd, Nat.reduceMul, Nat.reduceBEq, Nat.reduceLeDiff, Nat.reduceLT, Tryz.func105, Tryz.f105, a105, e_spec_IsTrial, e_spec_AreMarks, e_spec_NeedFor]
  try simp only [spec_TrialState, eY]
  all_goals rfl
theorem e_spec_l33Claims_l4 (n : Nat) (t1xNo : Int) {R1} {t1xFinds : List Find} {R2} {t1xSecrets : List Secret} {R3} {t1xSlots : List Slot} {R4} {t1xClaims : List Claim} {R5} {t1xTrials : List Trial} {R6} {t1xChain : List Hand} {R7} {t1xBook : List Entry} (t1xNow : Int) (t3 : Int) [H1 : EncL cFind R1 t1xFinds] [H2 : EncL cSecret R2 t1xSecrets] [H3 : EncL cSlot R3 t1xSlots] [H4 : EncL cClaim R4 t1xClaims] [H5 : EncL cTrial R5 t1xTrials] [H6 : EncL cHand R6 t1xChain] [H7 : EncL cEntry R7 t1xBook] : LP T (n + 5) 155 4 (frm [(1, .ptr 0 0 0), (3, .i .i64 t3)]) [some (Ent.box [.i .i64 t1xNo, .imm 8 R1, .imm 3 R2, .imm 3 R3, .imm 5 R4, .imm 4 R5, .imm 5 R6, .imm 4 R7, .i .i64 t1xNow])] =
    lmap (run (spec_l33Claims_l4 (⟨t1xNo, t1xFinds, t1xSecrets, t1xSlots, t1xClaims, t1xTrials, t1xChain, t1xBook, t1xNow⟩ : House)) t3) (fun (zr : Bool) => (XE.ret, frm [(2, .b zr)], [])) (fun (zr : Unit) => (XE.exit 0, frm [], [])) := by
  rcases H1, H2, H3, H4, H5, H6, H7 with ⟨⟨rfl⟩, ⟨rfl⟩, ⟨rfl⟩, ⟨rfl⟩, ⟨rfl⟩, ⟨rfl⟩, ⟨rfl⟩⟩
  rw [LP_eq]
  simp -dsimp only [↓evA, evB, lpG_eq, Tryz.func155, Tryz.f155, a155, TP, TZ, Nat.reduceAdd, Nat.reduceMul, Nat.reduceBEq, Nat.reduceLeDiff, Nat.reduceLT]
  refine run_map (fun (zs : Int) => (frm [(1, .ptr 0 0 0), (3, .i .i64 zs)], [some (Ent.box [.i .i64 t1xNo, .imm 8 (t1xFinds.map cFind), .imm 3 (t1xSecrets.map cSecret), .imm 3 (t1xSlots.map cSlot), .imm 5 (t1xClaims.map cClaim), .imm 4 (t1xTrials.map cTrial), .imm 5 (t1xChain.map cHand), .imm 4 (t1xBook.map cEntry), .i .i64 t1xNow])])) (evO (fun (zr : Bool) => (XE.ret, frm [(2, .b zr)], [])) (fun (zr : Unit) => (XE.exit 0, frm [], []))) ?_ t3
  intro t3
  simp -dsimp +contextual (maxSteps := 100000000) only [↓evA, eZ, Nat.reduceAdd, Nat.reduceMul, Nat.reduceBEq, Nat.reduceLeDiff, Nat.reduceLT, e_spec_FindThing, e_spec_IsTrial, e_spec_MarksOf, e_spec_TrialState]
  try simp only [spec_l33Claims_l4, eY]
  all_goals rfl
theorem e_spec_l33Claims (n : Nat) (vhxNo : Int) {R1} {vhxFinds : List Find} {R2} {vhxSecrets : List Secret} {R3} {vhxSlots : List Slot} {R4} {vhxClaims : List Claim} {R5} {vhxTrials : List Trial} {R6} {vhxChain : List Hand} {R7} {vhxBook : List Entry} (vhxNow : Int) [H1 : EncL cFind R1 vhxFinds] [H2 : EncL cSecret R2 vhxSecrets] [H3 : EncL cSlot R3 vhxSlots] [H4 : EncL cClaim R4 vhxClaims] [H5 : EncL cTrial R5 vhxTrials] [H6 : EncL cHand R6 vhxChain] [H7 : EncL cEntry R7 vhxBook] : CP T (n + 6) 155 [.agg [.i .i64 vhxNo, .imm 8 R1, .imm 3 R2, .imm 3 R3, .imm 5 R4, .imm 4 R5, .imm 5 R6, .imm 4 R7, .i .i64 vhxNow]] = (spec_l33Claims (⟨vhxNo, vhxFinds, vhxSecrets, vhxSlots, vhxClaims, vhxTrials, vhxChain, vhxBook, vhxNow⟩ : House)).map fun r => .b r := by
  rcases H1, H2, H3, H4, H5, H6, H7 with ⟨⟨rfl⟩, ⟨rfl⟩, ⟨rfl⟩, ⟨rfl⟩, ⟨rfl⟩, ⟨rfl⟩, ⟨rfl⟩⟩
  rw [CP_eq]
  simp -dsimp +contextual (maxSteps := 100000000) only [↓evA, eZ, Nat.reduceAdd, Nat.reduceMul, Nat.reduceBEq, Nat.reduceLeDiff, Nat.reduceLT, Tryz.func155, Tryz.f155, a155, e_spec_l33Claims_l4]
  try simp only [spec_l33Claims, eY]
  all_goals rfl
theorem e_spec_IsHouse (n : Nat) (vhxNo : Int) {R1} {vhxFinds : List Find} {R2} {vhxSecrets : List Secret} {R3} {vhxSlots : List Slot} {R4} {vhxClaims : List Claim} {R5} {vhxTrials : List Trial} {R6} {vhxChain : List Hand} {R7} {vhxBook : List Entry} (vhxNow : Int) [H1 : EncL cFind R1 vhxFinds] [H2 : EncL cSecret R2 vhxSecrets] [H3 : EncL cSlot R3 vhxSlots] [H4 : EncL cClaim R4 vhxClaims] [H5 : EncL cTrial R5 vhxTrials] [H6 : EncL cHand R6 vhxChain] [H7 : EncL cEntry R7 vhxBook] : CP T (n + 11) 60 [.agg [.i .i64 vhxNo, .imm 8 R1, .imm 3 R2, .imm 3 R3, .imm 5 R4, .imm 4 R5, .imm 5 R6, .imm 4 R7, .i .i64 vhxNow]] = (spec_IsHouse (⟨vhxNo, vhxFinds, vhxSecrets, vhxSlots, vhxClaims, vhxTrials, vhxChain, vhxBook, vhxNow⟩ : House)).map fun r => .b r := by
  rcases H1, H2, H3, H4, H5, H6, H7 with ⟨⟨rfl⟩, ⟨rfl⟩, ⟨rfl⟩, ⟨rfl⟩, ⟨rfl⟩, ⟨rfl⟩, ⟨rfl⟩⟩
  rw [CP_eq]
  simp -dsimp +contextual (maxSteps := 100000000) only [↓evA, eZ, Nat.reduceAdd, Nat.reduceMul, Nat.reduceBEq, Nat.reduceLeDiff, Nat.reduceLT, Tryz.func60, Tryz.f60, a60, e_spec_l1In, e_spec_AreFinds, e_spec_AreSecrets, e_spec_AreSlots, e_spec_AreClaims, e_spec_IsChain, e_spec_AreEntries, e_spec_l33Things, e_spec_l33Claims]
  try simp only [spec_IsHouse, eY]
  all_goals rfl
theorem e_spec_l34Done (n : Nat) (vhxNo : Int) {R1} {vhxFinds : List Find} {R2} {vhxSecrets : List Secret} {R3} {vhxSlots : List Slot} {R4} {vhxClaims : List Claim} {R5} {vhxTrials : List Trial} {R6} {vhxChain : List Hand} {R7} {vhxBook : List Entry} (vhxNow : Int) (outxNo : Int) {R8} {outxFinds : List Find} {R9} {outxSecrets : List Secret} {R10} {outxSlots : List Slot} {R11} {outxClaims : List Claim} {R12} {outxTrials : List Trial} {R13} {outxChain : List Hand} {R14} {outxBook : List Entry} (outxNow : Int) (ok : Bool) [H1 : EncL cFind R1 vhxFinds] [H2 : EncL cSecret R2 vhxSecrets] [H3 : EncL cSlot R3 vhxSlots] [H4 : EncL cClaim R4 vhxClaims] [H5 : EncL cTrial R5 vhxTrials] [H6 : EncL cHand R6 vhxChain] [H7 : EncL cEntry R7 vhxBook] [H8 : EncL cFind R8 outxFinds] [H9 : EncL cSecretO R9 outxSecrets] [H10 : EncL cSlot R10 outxSlots] [H11 : EncL cClaim R11 outxClaims] [H12 : EncL cTrial R12 outxTrials] [H13 : EncL cHand R13 outxChain] [H14 : EncL cEntry R14 outxBook] : CM T (n + 12) 92 [some (Ent.lst 8 R8), some (Ent.lst 3 R9), some (Ent.lst 3 R10), some (Ent.lst 5 R11), some (Ent.lst 4 R12), some (Ent.lst 5 R13), some (Ent.lst 4 R14)] [.agg [.i .i64 vhxNo, .imm 8 R1, .imm 3 R2, .imm 3 R3, .imm 5 R4, .imm 4 R5, .imm 5 R6, .imm 4 R7, .i .i64 vhxNow], .agg [.i .i64 outxNo, .sl 0, .sl 1, .sl 2, .sl 3, .sl 4, .sl 5, .sl 6, .i .i64 outxNow], .b ok] = (spec_l34Done (⟨vhxNo, vhxFinds, vhxSecrets, vhxSlots, vhxClaims, vhxTrials, vhxChain, vhxBook, vhxNow⟩ : House) (⟨outxNo, outxFinds, outxSecrets, outxSlots, outxClaims, outxTrials, outxChain, outxBook, outxNow⟩ : House) ok).map fun r => .tup [.agg (cHouseO r.1), .b r.2] := by
  rcases H1, H2, H3, H4, H5, H6, H7, H8, H9, H10, H11, H12, H13, H14 with ⟨⟨rfl⟩, ⟨rfl⟩, ⟨rfl⟩, ⟨rfl⟩, ⟨rfl⟩, ⟨rfl⟩, ⟨rfl⟩, ⟨rfl⟩, ⟨rfl⟩, ⟨rfl⟩, ⟨rfl⟩, ⟨rfl⟩, ⟨rfl⟩, ⟨rfl⟩⟩
  rw [CM_eq]
  simp -dsimp +contextual (maxSteps := 100000000) only [↓evA, eZ, Nat.reduceAdd, Nat.reduceMul, Nat.reduceBEq, Nat.reduceLeDiff, Nat.reduceLT, Tryz.func92, Tryz.f92, a92, e_spec_IsHouse, e_spec_l33Copy]
  try simp only [spec_l34Done, eY]
  all_goals rfl
theorem e_spec_StepFind (n : Nat) (vhxNo : Int) {R1} {vhxFinds : List Find} {R2} {vhxSecrets : List Secret} {R3} {vhxSlots : List Slot} {R4} {vhxClaims : List Claim} {R5} {vhxTrials : List Trial} {R6} {vhxChain : List Hand} {R7} {vhxBook : List Entry} (vhxNow : Int) (axThingxId : Int) (axThingxKind : Int) (axThingxColour : Int) (axThingxSize : Int) (axThingxWorth : Int) (axPlace : Int) (axAt : Int) (axFinder : Int) {R8} {a2 : List Mark} (a3 : Int) [H1 : EncL cFind R1 vhxFinds] [H2 : EncL cSecret R2 vhxSecrets] [H3 : EncL cSlot R3 vhxSlots] [H4 : EncL cClaim R4 vhxClaims] [H5 : EncL cTrial R5 vhxTrials] [H6 : EncL cHand R6 vhxChain] [H7 : EncL cEntry R7 vhxBook] [H8 : EncL cMark R8 a2] : CP T (n + 13) 35 [.agg [.i .i64 vhxNo, .imm 8 R1, .imm 3 R2, .imm 3 R3, .imm 5 R4, .imm 4 R5, .imm 5 R6, .imm 4 R7, .i .i64 vhxNow], .agg [.i .i64 axThingxId, .i .i64 axThingxKind, .i .i64 axThingxColour, .i .i64 axThingxSize, .i .i64 axThingxWorth, .i .i64 axPlace, .i .i64 axAt, .i .i64 axFinder], .imm 2 R8, .i .i64 a3] = (spec_StepFind (⟨vhxNo, vhxFinds, vhxSecrets, vhxSlots, vhxClaims, vhxTrials, vhxChain, vhxBook, vhxNow⟩ : House) (⟨⟨axThingxId, axThingxKind, axThingxColour, axThingxSize, axThingxWorth⟩, axPlace, axAt, axFinder⟩ : Find) a2 a3).map fun r => .tup [.agg (cHouseO r.1), .b r.2] := by
  rcases H1, H2, H3, H4, H5, H6, H7, H8 with ⟨⟨rfl⟩, ⟨rfl⟩, ⟨rfl⟩, ⟨rfl⟩, ⟨rfl⟩, ⟨rfl⟩, ⟨rfl⟩, ⟨rfl⟩⟩
  rw [CP_eq]
  simp -dsimp +contextual (maxSteps := 100000000) only [↓evA, eZ, Nat.reduceAdd, Nat.reduceMul, Nat.reduceBEq, Nat.reduceLeDiff, Nat.reduceLT, Tryz.func35, Tryz.f35, a35, srt, e_spec_l33Copy, e_spec_PutFind, e_spec_PutSecret, e_spec_PutAway, e_spec_AddHand, e_spec_l34Done]
  try simp only [spec_StepFind, eY]
  all_goals rfl
theorem e_slices_Clone_Find (n : Nat) {R1} {s : List Find} [H1 : EncL cFind R1 s] : CP T (n + 1) 177 [.imm 8 R1] = (slices_Clone_Find s).map fun r => .own 8 (r.map cFind) := by
  obtain ⟨rfl⟩ := H1
  rw [CP_eq]
  simp -dsimp +contextual only [↓evA, eZ, Nat.reduceAdd, Nat.reduceMul, Nat.reduceBEq, Nat.reduceLeDiff, Nat.reduceLT, Tryz.func177, Tryz.f177, a177]
  try simp only [slices_Clone_Find, eY]
  all_goals first | rfl | (simp +contextual only [evN] <;> rfl)
theorem e_slices_Clone_Mark (n : Nat) {R1} {s : List Mark} [H1 : EncL cMark R1 s] : CP T (n + 1) 193 [.imm 2 R1] = (slices_Clone_Mark s).map fun r => .own 2 (r.map cMark) := by
  obtain ⟨rfl⟩ := H1
  rw [CP_eq]
  simp -dsimp +contextual only [↓evA, eZ, Nat.reduceAdd, Nat.reduceMul, Nat.reduceBEq, Nat.reduceLeDiff, Nat.reduceLT, Tryz.func193, Tryz.f193, a193]
  try simp only [slices_Clone_Mark, eY]
  all_goals first | rfl | (simp +contextual only [evN] <;> rfl)
theorem e_impl_cloneSecrets_l3 (n : Nat) {R1} {out : List Secret} {R2} {t7 : List Secret} (t8 : Int) (t9 : Int) [H1 : EncL cSecretO R1 out] [H2 : EncL cSecret R2 t7] : LP T (n + 2) 178 3 (frm [(3, .sl 0), (7, .imm 3 R2), (8, .i .i64 t8), (9, .i .i64 t9)]) [some (Ent.lst 3 R1)] =
    (run (impl_cloneSecrets_l3 t7 t8) (out, t9)).map (fun (zr : (List Secret)) => (XE.exit 0, frm [(3, .sl 0)], [some (Ent.lst 3 (zr.map cSecretO))])) := by
  rcases H1, H2 with ⟨⟨rfl⟩, ⟨rfl⟩⟩
  rw [LP_eq]
  simp -dsimp only [↓evA, evB, lpG_eq, Tryz.func178, Tryz.f178, a178, TP, TZ, Nat.reduceAdd, Nat.reduceMul, Nat.reduceBEq, Nat.reduceLeDiff, Nat.reduceLT]
  refine run_map (fun (zs : (List Secret) × Int) => (frm [(3, .sl 0), (7, .imm 3 (t7.map cSecret)), (8, .i .i64 t8), (9, .i .i64 zs.2)], [some (Ent.lst 3 (zs.1.map cSecretO))])) (fun (zr : (List Secret)) => (XE.exit 0, frm [(3, .sl 0)], [some (Ent.lst 3 (zr.map cSecretO))])) ?_ (out, t9)
  rintro ⟨out, t9⟩
  simp -dsimp +contextual only [↓evA, eZ, Nat.reduceAdd, Nat.reduceMul, Nat.reduceBEq, Nat.reduceLeDiff, Nat.reduceLT, e_slices_Clone_Mark]
  try simp only [impl_cloneSecrets_l3, eY]
  all_goals rfl
theorem e_impl_cloneSecrets (n : Nat) {R1} {l : List Secret} [H1 : EncL cSecret R1 l] : CP T (n + 3) 178 [.imm 3 R1] = (impl_cloneSecrets l).map fun r => .own 3 (r.map cSecretO) := by
  obtain ⟨rfl⟩ := H1
  rw [CP_eq]
  simp -dsimp +contextual only [↓evA, eZ, Nat.reduceAdd, Nat.reduceMul, Nat.reduceBEq, Nat.reduceLeDiff, Nat.reduceLT, Tryz.func178, Tryz.f178, a178, e_impl_cloneSecrets_l3]
  try simp only [impl_cloneSecrets, eY]
  all_goals first | rfl | (simp +contextual only [evN] <;> rfl)
theorem e_slices_Clone_Slot (n : Nat) {R1} {s : List Slot} [H1 : EncL cSlot R1 s] : CP T (n + 1) 63 [.imm 3 R1] = (slices_Clone_Slot s).map fun r => .own 3 (r.map cSlot) := by
  obtain ⟨rfl⟩ := H1
  rw [CP_eq]
  simp -dsimp +contextual only [↓evA, eZ, Nat.reduceAdd, Nat.reduceMul, Nat.reduceBEq, Nat.reduceLeDiff, Nat.reduceLT, Tryz.func63, Tryz.f63, a63]
  try simp only [slices_Clone_Slot, eY]
  all_goals first | rfl | (simp +contextual only [evN] <;> rfl)
theorem e_slices_Clone_Claim (n : Nat) {R1} {s : List Claim} [H1 : EncL cClaim R1 s] : CP T (n + 1) 179 [.imm 5 R1] = (slices_Clone_Claim s).map fun r => .own 5 (r.map cClaim) := by
  obtain ⟨rfl⟩ := H1
  rw [CP_eq]
  simp -dsimp +contextual only [↓evA, eZ, Nat.reduceAdd, Nat.reduceMul, Nat.reduceBEq, Nat.reduceLeDiff, Nat.reduceLT, Tryz.func179, Tryz.f179, a179]
  try simp only [slices_Clone_Claim, eY]
  all_goals first | rfl | (simp +contextual only [evN] <;> rfl)
theorem e_slices_Clone_Trial (n : Nat) {R1} {s : List Trial} [H1 : EncL cTrial R1 s] : CP T (n + 1) 180 [.imm 4 R1] = (slices_Clone_Trial s).map fun r => .own 4 (r.map cTrial) := by
  obtain ⟨rfl⟩ := H1
  rw [CP_eq]
  simp -dsimp +contextual only [↓evA, eZ, Nat.reduceAdd, Nat.reduceMul, Nat.reduceBEq, Nat.reduceLeDiff, Nat.reduceLT, Tryz.func180, Tryz.f180, a180]
  try simp only [slices_Clone_Trial, eY]
  all_goals first | rfl | (simp +contextual only [evN] <;> rfl)
theorem e_slices_Clone_Hand (n : Nat) {R1} {s : List Hand} [H1 : EncL cHand R1 s] : CP T (n + 1) 181 [.imm 5 R1] = (slices_Clone_Hand s).map fun r => .own 5 (r.map cHand) := by
  obtain ⟨rfl⟩ := H1
  rw [CP_eq]
  simp -dsimp +contextual only [↓evA, eZ, Nat.reduceAdd, Nat.reduceMul, Nat.reduceBEq, Nat.reduceLeDiff, Nat.reduceLT, Tryz.func181, Tryz.f181, a181]
  try simp only [slices_Clone_Hand, eY]
  all_goals first | rfl | (simp +contextual only [evN] <;> rfl)
theorem e_slices_Clone_Entry (n : Nat) {R1} {s : List Entry} [H1 : EncL cEntry R1 s] : CP T (n + 1) 182 [.imm 4 R1] = (slices_Clone_Entry s).map fun r => .own 4 (r.map cEntry) := by
  obtain ⟨rfl⟩ := H1
  rw [CP_eq]
  simp -dsimp +contextual only [↓evA, eZ, Nat.reduceAdd, Nat.reduceMul, Nat.reduceBEq, Nat.reduceLeDiff, Nat.reduceLT, Tryz.func182, Tryz.f182, a182]
  try simp only [slices_Clone_Entry, eY]
  all_goals first | rfl | (simp +contextual only [evN] <;> rfl)
theorem e_impl_cloneHouse (n : Nat) (vhxNo : Int) {R1} {vhxFinds : List Find} {R2} {vhxSecrets : List Secret} {R3} {vhxSlots : List Slot} {R4} {vhxClaims : List Claim} {R5} {vhxTrials : List Trial} {R6} {vhxChain : List Hand} {R7} {vhxBook : List Entry} (vhxNow : Int) [H1 : EncL cFind R1 vhxFinds] [H2 : EncL cSecret R2 vhxSecrets] [H3 : EncL cSlot R3 vhxSlots] [H4 : EncL cClaim R4 vhxClaims] [H5 : EncL cTrial R5 vhxTrials] [H6 : EncL cHand R6 vhxChain] [H7 : EncL cEntry R7 vhxBook] : CP T (n + 4) 99 [.agg [.i .i64 vhxNo, .imm 8 R1, .imm 3 R2, .imm 3 R3, .imm 5 R4, .imm 4 R5, .imm 5 R6, .imm 4 R7, .i .i64 vhxNow]] = (impl_cloneHouse (⟨vhxNo, vhxFinds, vhxSecrets, vhxSlots, vhxClaims, vhxTrials, vhxChain, vhxBook, vhxNow⟩ : House)).map fun r => .agg (cHouseO r) := by
  rcases H1, H2, H3, H4, H5, H6, H7 with ⟨⟨rfl⟩, ⟨rfl⟩, ⟨rfl⟩, ⟨rfl⟩, ⟨rfl⟩, ⟨rfl⟩, ⟨rfl⟩⟩
  rw [CP_eq]
  simp -dsimp +contextual (maxSteps := 100000000) only [↓evA, eZ, Nat.reduceAdd, Nat.reduceMul, Nat.reduceBEq, Nat.reduceLeDiff, Nat.reduceLT, Tryz.func99, Tryz.f99, a99, e_slices_Clone_Find, e_impl_cloneSecrets, e_slices_Clone_Slot, e_slices_Clone_Claim, e_slices_Clone_Trial, e_slices_Clone_Hand, e_slices_Clone_Entry]
  try simp only [impl_cloneHouse, eY]
  all_goals rfl
theorem e_impl_FindThing_1 (n : Nat) (fxThingxId : Int) (fxThingxKind : Int) (fxThingxColour : Int) (fxThingxSize : Int) (fxThingxWorth : Int) (fxPlace : Int) (fxAt : Int) (fxFinder : Int) (c : Int) : CP T (n + 1) 248 [.agg [.i .i64 fxThingxId, .i .i64 fxThingxKind, .i .i64 fxThingxColour, .i .i64 fxThingxSize, .i .i64 fxThingxWorth, .i .i64 fxPlace, .i .i64 fxAt, .i .i64 fxFinder], .iptr 1 [[.i .i64 c]] 0 0] = (impl_FindThing_1 (⟨⟨fxThingxId, fxThingxKind, fxThingxColour, fxThingxSize, fxThingxWorth⟩, fxPlace, fxAt, fxFinder⟩ : Find) c).map fun r => .b r := by
  rw [CP_eq]
  simp -dsimp +contextual only [↓evA, eZ, Nat.reduceAdd, Nat.reduceMul, Nat.reduceBEq, Nat.reduceLeDiff, Nat.reduceLT, Tryz.func248, Tryz.f248, a248]
  try simp only [impl_FindThing_1, eY]
  all_goals rfl
theorem e_slices_IndexFunc_Find_cimpl_FindThing_1_l2 (n : Nat) {R1} {s : List Find} (f : Int) (t7 : Int) (t8 : Int) [H1 : EncL cFind R1 s] : LP T (n + 2) 247 2 (frm [(0, .imm 8 R1), (1, .clo 248 [.iptr 1 [[.i .i64 f]] 0 0]), (7, .i .i64 t7), (8, .i .i64 t8)]) [] =
    lmap (run (slices_IndexFunc_Find_cimpl_FindThing_1_l2 s f t7) t8) (fun (zr : Int) => (XE.ret, frm [(4, .i .i64 zr)], [])) (fun (zr : Unit) => (XE.exit 0, frm [], [])) := by
  obtain ⟨rfl⟩ := H1
  rw [LP_eq]
  simp -dsimp only [↓evA, evB, lpG_eq, Tryz.func247, Tryz.f247, a247, TP, TZ, Nat.reduceAdd, Nat.reduceMul, Nat.reduceBEq, Nat.reduceLeDiff, Nat.reduceLT]
  refine run_map (fun (zs : Int) => (frm [(0, .imm 8 (s.map cFind)), (1, .clo 248 [.iptr 1 [[.i .i64 f]] 0 0]), (7, .i .i64 t7), (8, .i .i64 zs)], [])) (evO (fun (zr : Int) => (XE.ret, frm [(4, .i .i64 zr)], [])) (fun (zr : Unit) => (XE.exit 0, frm [], []))) ?_ t8
  intro t8
  simp -dsimp +contextual only [↓evA, eZ, Nat.reduceAdd, Nat.reduceMul, Nat.reduceBEq, Nat.reduceLeDiff, Nat.reduceLT, e_impl_FindThing_1]
  try simp only [slices_IndexFunc_Find_cimpl_FindThing_1_l2, eY]
  all_goals rfl
theorem e_slices_IndexFunc_Find_cimpl_FindThing_1 (n : Nat) {R1} {s : List Find} (c : Int) [H1 : EncL cFind R1 s] : CP T (n + 3) 247 [.imm 8 R1, .clo 248 [.iptr 1 [[.i .i64 c]] 0 0]] = (slices_IndexFunc_Find_cimpl_FindThing_1 s c).map fun r => .i .i64 r := by
  obtain ⟨rfl⟩ := H1
  rw [CP_eq]
  simp -dsimp +contextual only [↓evA, eZ, Nat.reduceAdd, Nat.reduceMul, Nat.reduceBEq, Nat.reduceLeDiff, Nat.reduceLT, Tryz.func247, Tryz.f247, a247, e_slices_IndexFunc_Find_cimpl_FindThing_1_l2]
  try simp only [slices_IndexFunc_Find_cimpl_FindThing_1, eY]
  all_goals rfl
theorem e_impl_FindThing (n : Nat) {R1} {l : List Find} (id : Int) [H1 : EncL cFind R1 l] : CP T (n + 4) 210 [.imm 8 R1, .i .i64 id] = (impl_FindThing l id).map fun r => .i .i64 r := by
  obtain ⟨rfl⟩ := H1
  rw [CP_eq]
  simp -dsimp +contextual only [↓evA, eZ, Nat.reduceAdd, Nat.reduceMul, Nat.reduceBEq, Nat.reduceLeDiff, Nat.reduceLT, Tryz.func210, Tryz.f210, a210, e_slices_IndexFunc_Find_cimpl_FindThing_1]
  try simp only [impl_FindThing, eY]
  all_goals rfl
theorem e_impl_InRange (n : Nat) (vn : Int) (low : Int) (high : Int) : CP T (n + 1) 101 [.i .i64 vn, .i .i64 low, .i .i64 high] = (impl_InRange vn low high).map fun r => .b r := by
  rw [CP_eq]
  simp -dsimp +contextual only [↓evA, eZ, Nat.reduceAdd, Nat.reduceMul, Nat.reduceBEq, Nat.reduceLeDiff, Nat.reduceLT, Tryz.func101, Tryz.f101, a101]
  try simp only [impl_InRange, eY]
  all_goals rfl
theorem e_impl_IsThing (n : Nat) (xxId : Int) (xxKind : Int) (xxColour : Int) (xxSize : Int) (xxWorth : Int) : CP T (n + 2) 212 [.agg [.i .i64 xxId, .i .i64 xxKind, .i .i64 xxColour, .i .i64 xxSize, .i .i64 xxWorth]] = (impl_IsThing (⟨xxId, xxKind, xxColour, xxSize, xxWorth⟩ : Thing)).map fun r => .b r := by
  rw [CP_eq]
  simp -dsimp +contextual only [↓evA, eZ, Nat.reduceAdd, Nat.reduceMul, Nat.reduceBEq, Nat.reduceLeDiff, Nat.reduceLT, Tryz.func212, Tryz.f212, a212, e_impl_InRange]
  try simp only [impl_IsThing, eY]
  all_goals rfl
theorem e_impl_IsFind (n : Nat) (fxThingxId : Int) (fxThingxKind : Int) (fxThingxColour : Int) (fxThingxSize : Int) (fxThingxWorth : Int) (fxPlace : Int) (fxAt : Int) (fxFinder : Int) : CP T (n + 3) 233 [.agg [.i .i64 fxThingxId, .i .i64 fxThingxKind, .i .i64 fxThingxColour, .i .i64 fxThingxSize, .i .i64 fxThingxWorth, .i .i64 fxPlace, .i .i64 fxAt, .i .i64 fxFinder]] = (impl_IsFind (⟨⟨fxThingxId, fxThingxKind, fxThingxColour, fxThingxSize, fxThingxWorth⟩, fxPlace, fxAt, fxFinder⟩ : Find)).map fun r => .b r := by
  rw [CP_eq]
  simp -dsimp +contextual only [↓evA, eZ, Nat.reduceAdd, Nat.reduceMul, Nat.reduceBEq, Nat.reduceLeDiff, Nat.reduceLT, Tryz.func233, Tryz.f233, a233, e_impl_IsThing, e_impl_InRange]
  try simp only [impl_IsFind, eY]
  all_goals rfl
theorem e_impl_AreFinds_l4 (n : Nat) {R1} {l : List Find} {R2} {t8 : List Find} (t9 : Int) (t10 : Int) [H1 : EncL cFind R1 l] [H2 : EncL cFind R2 t8] : LP T (n + 4) 156 4 (frm [(0, .imm 8 R1), (8, .imm 8 R2), (9, .i .i64 t9), (10, .i .i64 t10)]) [] =
    lmap (run (impl_AreFinds_l4 l t8 t9) t10) (fun (zr : Bool) => (XE.ret, frm [(2, .b zr)], [])) (fun (zr : Unit) => (XE.exit 0, frm [], [])) := by
  rcases H1, H2 with ⟨⟨rfl⟩, ⟨rfl⟩⟩
  rw [LP_eq]
  simp -dsimp only [↓evA, evB, lpG_eq, Tryz.func156, Tryz.f156, a156, TP, TZ, Nat.reduceAdd, Nat.reduceMul, Nat.reduceBEq, Nat.reduceLeDiff, Nat.reduceLT]
  refine run_map (fun (zs : Int) => (frm [(0, .imm 8 (l.map cFind)), (8, .imm 8 (t8.map cFind)), (9, .i .i64 t9), (10, .i .i64 zs)], [])) (evO (fun (zr : Bool) => (XE.ret, frm [(2, .b zr)], [])) (fun (zr : Unit) => (XE.exit 0, frm [], []))) ?_ t10
  intro t10
  simp -dsimp +contextual only [↓evA, eZ, Nat.reduceAdd, Nat.reduceMul, Nat.reduceBEq, Nat.reduceLeDiff, Nat.reduceLT, e_impl_IsFind]
  try simp only [impl_AreFinds_l4, eY]
  all_goals rfl
theorem e_impl_AreFinds (n : Nat) {R1} {l : List Find} [H1 : EncL cFind R1 l] : CP T (n + 5) 156 [.imm 8 R1] = (impl_AreFinds l).map fun r => .b r := by
  obtain ⟨rfl⟩ := H1
  rw [CP_eq]
  simp -dsimp +contextual only [↓evA, eZ, Nat.reduceAdd, Nat.reduceMul, Nat.reduceBEq, Nat.reduceLeDiff, Nat.reduceLT, Tryz.func156, Tryz.f156, a156, e_impl_AreFinds_l4]
  try simp only [impl_AreFinds, eY]
  all_goals rfl
theorem e_impl_PutFind_l5 (n : Nat) {R1} {l : List Find} (fxThingxId : Int) (fxThingxKind : Int) (fxThingxColour : Int) (fxThingxSize : Int) (fxThingxWorth : Int) (fxPlace : Int) (fxAt : Int) (fxFinder : Int) {R2} {out : List Find} (vat : Int) [H1 : EncL cFind R1 l] [H2 : EncL cFind R2 out] : LP T (n + 1) 135 5 (frm [(0, .imm 8 R1), (3, .ptr 0 0 0), (6, .sl 1), (7, .i .i64 vat)]) [some (Ent.box [.i .i64 fxThingxId, .i .i64 fxThingxKind, .i .i64 fxThingxColour, .i .i64 fxThingxSize, .i .i64 fxThingxWorth, .i .i64 fxPlace, .i .i64 fxAt, .i .i64 fxFinder]), some (Ent.lst 8 R2)] =
    (run (impl_PutFind_l5 l (⟨⟨fxThingxId, fxThingxKind, fxThingxColour, fxThingxSize, fxThingxWorth⟩, fxPlace, fxAt, fxFinder⟩ : Find) out) vat).map (fun (zr : Int) => (XE.exit 0, frm [(0, .imm 8 (l.map cFind)), (3, .ptr 0 0 0), (6, .sl 1), (7, .i .i64 zr)], [some (Ent.box [.i .i64 fxThingxId, .i .i64 fxThingxKind, .i .i64 fxThingxColour, .i .i64 fxThingxSize, .i .i64 fxThingxWorth, .i .i64 fxPlace, .i .i64 fxAt, .i .i64 fxFinder]), some (Ent.lst 8 (out.map cFind))])) := by
  rcases H1, H2 with ⟨⟨rfl⟩, ⟨rfl⟩⟩
  rw [LP_eq]
  simp -dsimp only [↓evA, evB, lpG_eq, Tryz.func135, Tryz.f135, a135, TP, TZ, Nat.reduceAdd, Nat.reduceMul, Nat.reduceBEq, Nat.reduceLeDiff, Nat.reduceLT]
  refine run_map (fun (zs : Int) => (frm [(0, .imm 8 (l.map cFind)), (3, .ptr 0 0 0), (6, .sl 1), (7, .i .i64 zs)], [some (Ent.box [.i .i64 fxThingxId, .i .i64 fxThingxKind, .i .i64 fxThingxColour, .i .i64 fxThingxSize, .i .i64 fxThingxWorth, .i .i64 fxPlace, .i .i64 fxAt, .i .i64 fxFinder]), some (Ent.lst 8 (out.map cFind))])) (fun (zr : Int) => (XE.exit 0, frm [(0, .imm 8 (l.map cFind)), (3, .ptr 0 0 0), (6, .sl 1), (7, .i .i64 zr)], [some (Ent.box [.i .i64 fxThingxId, .i .i64 fxThingxKind, .i .i64 fxThingxColour, .i .i64 fxThingxSize, .i .i64 fxThingxWorth, .i .i64 fxPlace, .i .i64 fxAt, .i .i64 fxFinder]), some (Ent.lst 8 (out.map cFind))])) ?_ vat
  intro vat
  simp -dsimp +contextual only [↓evA, eZ, Nat.reduceAdd, Nat.reduceMul, Nat.reduceBEq, Nat.reduceLeDiff, Nat.reduceLT, srt]
  try simp only [impl_PutFind_l5, eY]
  all_goals rfl
theorem e_impl_PutFind (n : Nat) {R1} {l : List Find} (fxThingxId : Int) (fxThingxKind : Int) (fxThingxColour : Int) (fxThingxSize : Int) (fxThingxWorth : Int) (fxPlace : Int) (fxAt : Int) (fxFinder : Int) [H1 : EncL cFind R1 l] : CP T (n + 6) 135 [.imm 8 R1, .agg [.i .i64 fxThingxId, .i .i64 fxThingxKind, .i .i64 fxThingxColour, .i .i64 fxThingxSize, .i .i64 fxThingxWorth, .i .i64 fxPlace, .i .i64 fxAt, .i .i64 fxFinder]] = (impl_PutFind l (⟨⟨fxThingxId, fxThingxKind, fxThingxColour, fxThingxSize, fxThingxWorth⟩, fxPlace, fxAt, fxFinder⟩ : Find)).map fun r => .tup [.own 8 (r.1.map cFind), .b r.2] := by
  obtain ⟨rfl⟩ := H1
  rw [CP_eq]
  simp -dsimp +contextual only [↓evA, eZ, Nat.reduceAdd, Nat.reduceMul, Nat.reduceBEq, Nat.reduceLeDiff, Nat.reduceLT, Tryz.func135, Tryz.f135, a135, srt, e_slices_Clone_Find, e_impl_FindThing, e_mt218, e_impl_AreFinds, e_impl_PutFind_l5]
  try simp only [impl_PutFind, eY]
  all_goals first | rfl | (simp +contextual only [evN] <;> rfl)
theorem e_impl_secretOf_1 (n : Nat) (xxThing : Int) {R1} {xxMarks : List Mark} (xxSalt : Int) (c : Int) [H1 : EncL cMark R1 xxMarks] : CP T (n + 1) 242 [.agg [.i .i64 xxThing, .imm 2 R1, .i .i64 xxSalt], .iptr 1 [[.i .i64 c]] 0 0] = (impl_secretOf_1 (⟨xxThing, xxMarks, xxSalt⟩ : Secret) c).map fun r => .b r := by
  obtain ⟨rfl⟩ := H1
  rw [CP_eq]
  simp -dsimp +contextual only [↓evA, eZ, Nat.reduceAdd, Nat.reduceMul, Nat.reduceBEq, Nat.reduceLeDiff, Nat.reduceLT, Tryz.func242, Tryz.f242, a242]
  try simp only [impl_secretOf_1, eY]
  all_goals rfl
theorem e_slices_IndexFunc_Secret_cimpl_secretOf_1_l2 (n : Nat) {R1} {s : List Secret} (f : Int) (t7 : Int) (t8 : Int) [H1 : EncL cSecret R1 s] : LP T (n + 2) 241 2 (frm [(0, .imm 3 R1), (1, .clo 242 [.iptr 1 [[.i .i64 f]] 0 0]), (7, .i .i64 t7), (8, .i .i64 t8)]) [] =
    lmap (run (slices_IndexFunc_Secret_cimpl_secretOf_1_l2 s f t7) t8) (fun (zr : Int) => (XE.ret, frm [(4, .i .i64 zr)], [])) (fun (zr : Unit) => (XE.exit 0, frm [], [])) := by
  obtain ⟨rfl⟩ := H1
  rw [LP_eq]
  simp -dsimp only [↓evA, evB, lpG_eq, Tryz.func241, Tryz.f241, a241, TP, TZ, Nat.reduceAdd, Nat.reduceMul, Nat.reduceBEq, Nat.reduceLeDiff, Nat.reduceLT]
  refine run_map (fun (zs : Int) => (frm [(0, .imm 3 (s.map cSecret)), (1, .clo 242 [.iptr 1 [[.i .i64 f]] 0 0]), (7, .i .i64 t7), (8, .i .i64 zs)], [])) (evO (fun (zr : Int) => (XE.ret, frm [(4, .i .i64 zr)], [])) (fun (zr : Unit) => (XE.exit 0, frm [], []))) ?_ t8
  intro t8
  simp -dsimp +contextual only [↓evA, eZ, Nat.reduceAdd, Nat.reduceMul, Nat.reduceBEq, Nat.reduceLeDiff, Nat.reduceLT, e_impl_secretOf_1]
  try simp only [slices_IndexFunc_Secret_cimpl_secretOf_1_l2, eY]
  all_goals rfl
theorem e_slices_IndexFunc_Secret_cimpl_secretOf_1 (n : Nat) {R1} {s : List Secret} (c : Int) [H1 : EncL cSecret R1 s] : CP T (n + 3) 241 [.imm 3 R1, .clo 242 [.iptr 1 [[.i .i64 c]] 0 0]] = (slices_IndexFunc_Secret_cimpl_secretOf_1 s c).map fun r => .i .i64 r := by
  obtain ⟨rfl⟩ := H1
  rw [CP_eq]
  simp -dsimp +contextual only [↓evA, eZ, Nat.reduceAdd, Nat.reduceMul, Nat.reduceBEq, Nat.reduceLeDiff, Nat.reduceLT, Tryz.func241, Tryz.f241, a241, e_slices_IndexFunc_Secret_cimpl_secretOf_1_l2]
  try simp only [slices_IndexFunc_Secret_cimpl_secretOf_1, eY]
  all_goals rfl
theorem e_impl_secretOf (n : Nat) {R1} {l : List Secret} (thing : Int) [H1 : EncL cSecret R1 l] : CP T (n + 4) 192 [.imm 3 R1, .i .i64 thing] = (impl_secretOf l thing).map fun r => .i .i64 r := by
  obtain ⟨rfl⟩ := H1
  rw [CP_eq]
  simp -dsimp +contextual only [↓evA, eZ, Nat.reduceAdd, Nat.reduceMul, Nat.reduceBEq, Nat.reduceLeDiff, Nat.reduceLT, Tryz.func192, Tryz.f192, a192, e_slices_IndexFunc_Secret_cimpl_secretOf_1]
  try simp only [impl_secretOf, eY]
  all_goals rfl
theorem e_impl_AreMarks_l4 (n : Nat) {R1} {l : List Mark} {R2} {t8 : List Mark} (t9 : Int) (t10 : Int) [H1 : EncL cMark R1 l] [H2 : EncL cMark R2 t8] : LP T (n + 2) 197 4 (frm [(0, .imm 2 R1), (8, .imm 2 R2), (9, .i .i64 t9), (10, .i .i64 t10)]) [] =
    lmap (run (impl_AreMarks_l4 l t8 t9) t10) (fun (zr : Bool) => (XE.ret, frm [(2, .b zr)], [])) (fun (zr : Unit) => (XE.exit 0, frm [], [])) := by
  rcases H1, H2 with ⟨⟨rfl⟩, ⟨rfl⟩⟩
  rw [LP_eq]
  simp -dsimp only [↓evA, evB, lpG_eq, Tryz.func197, Tryz.f197, a197, TP, TZ, Nat.reduceAdd, Nat.reduceMul, Nat.reduceBEq, Nat.reduceLeDiff, Nat.reduceLT]
  refine run_map (fun (zs : Int) => (frm [(0, .imm 2 (l.map cMark)), (8, .imm 2 (t8.map cMark)), (9, .i .i64 t9), (10, .i .i64 zs)], [])) (evO (fun (zr : Bool) => (XE.ret, frm [(2, .b zr)], [])) (fun (zr : Unit) => (XE.exit 0, frm [], []))) ?_ t10
  intro t10
  simp -dsimp +contextual only [↓evA, eZ, Nat.reduceAdd, Nat.reduceMul, Nat.reduceBEq, Nat.reduceLeDiff, Nat.reduceLT, e_impl_InRange]
  try simp only [impl_AreMarks_l4, eY]
  all_goals rfl
theorem e_impl_AreMarks (n : Nat) {R1} {l : List Mark} [H1 : EncL cMark R1 l] : CP T (n + 3) 197 [.imm 2 R1] = (impl_AreMarks l).map fun r => .b r := by
  obtain ⟨rfl⟩ := H1
  rw [CP_eq]
  simp -dsimp +contextual only [↓evA, eZ, Nat.reduceAdd, Nat.reduceMul, Nat.reduceBEq, Nat.reduceLeDiff, Nat.reduceLT, Tryz.func197, Tryz.f197, a197, e_impl_AreMarks_l4]
  try simp only [impl_AreMarks, eY]
  all_goals rfl
theorem e_impl_AreSecrets_l4 (n : Nat) {R1} {l : List Secret} {R2} {t8 : List Secret} (t9 : Int) (t10 : Int) [H1 : EncL cSecret R1 l] [H2 : EncL cSecret R2 t8] : LP T (n + 4) 157 4 (frm [(0, .imm 3 R1), (8, .imm 3 R2), (9, .i .i64 t9), (10, .i .i64 t10)]) [] =
    lmap (run (impl_AreSecrets_l4 l t8 t9) t10) (fun (zr : Bool) => (XE.ret, frm [(2, .b zr)], [])) (fun (zr : Unit) => (XE.exit 0, frm [], [])) := by
  rcases H1, H2 with ⟨⟨rfl⟩, ⟨rfl⟩⟩
  rw [LP_eq]
  simp -dsimp only [↓evA, evB, lpG_eq, Tryz.func157, Tryz.f157, a157, TP, TZ, Nat.reduceAdd, Nat.reduceMul, Nat.reduceBEq, Nat.reduceLeDiff, Nat.reduceLT]
  refine run_map (fun (zs : Int) => (frm [(0, .imm 3 (l.map cSecret)), (8, .imm 3 (t8.map cSecret)), (9, .i .i64 t9), (10, .i .i64 zs)], [])) (evO (fun (zr : Bool) => (XE.ret, frm [(2, .b zr)], [])) (fun (zr : Unit) => (XE.exit 0, frm [], []))) ?_ t10
  intro t10
  simp -dsimp +contextual only [↓evA, eZ, Nat.reduceAdd, Nat.reduceMul, Nat.reduceBEq, Nat.reduceLeDiff, Nat.reduceLT, e_impl_InRange, e_impl_AreMarks]
  try simp only [impl_AreSecrets_l4, eY]
  all_goals rfl
theorem e_impl_AreSecrets (n : Nat) {R1} {l : List Secret} [H1 : EncL cSecret R1 l] : CP T (n + 5) 157 [.imm 3 R1] = (impl_AreSecrets l).map fun r => .b r := by
  obtain ⟨rfl⟩ := H1
  rw [CP_eq]
  simp -dsimp +contextual only [↓evA, eZ, Nat.reduceAdd, Nat.reduceMul, Nat.reduceBEq, Nat.reduceLeDiff, Nat.reduceLT, Tryz.func157, Tryz.f157, a157, e_impl_AreSecrets_l4]
  try simp only [impl_AreSecrets, eY]
  all_goals rfl
theorem e_impl_PutSecret_l5 (n : Nat) {R1} {l : List Secret} (xxThing : Int) {R2} {xxMarks : List Mark} (xxSalt : Int) {R3} {out : List Secret} (vat : Int) [H1 : EncL cSecret R1 l] [H2 : EncL cMark R2 xxMarks] [H3 : EncL cSecretO R3 out] : LP T (n + 1) 136 5 (frm [(0, .imm 3 R1), (3, .ptr 0 0 0), (6, .sl 1), (7, .i .i64 vat)]) [some (Ent.box [.i .i64 xxThing, .imm 2 R2, .i .i64 xxSalt]), some (Ent.lst 3 R3)] =
    (run (impl_PutSecret_l5 l (⟨xxThing, xxMarks, xxSalt⟩ : Secret) out) vat).map (fun (zr : Int) => (XE.exit 0, frm [(0, .imm 3 (l.map cSecret)), (3, .ptr 0 0 0), (6, .sl 1), (7, .i .i64 zr)], [some (Ent.box [.i .i64 xxThing, .imm 2 (xxMarks.map cMark), .i .i64 xxSalt]), some (Ent.lst 3 (out.map cSecretO))])) := by
  rcases H1, H2, H3 with ⟨⟨rfl⟩, ⟨rfl⟩, ⟨rfl⟩⟩
  rw [LP_eq]
  simp -dsimp only [↓evA, evB, lpG_eq, Tryz.func136, Tryz.f136, a136, TP, TZ, Nat.reduceAdd, Nat.reduceMul, Nat.reduceBEq, Nat.reduceLeDiff, Nat.reduceLT]
  refine run_map (fun (zs : Int) => (frm [(0, .imm 3 (l.map cSecret)), (3, .ptr 0 0 0), (6, .sl 1), (7, .i .i64 zs)], [some (Ent.box [.i .i64 xxThing, .imm 2 (xxMarks.map cMark), .i .i64 xxSalt]), some (Ent.lst 3 (out.map cSecretO))])) (fun (zr : Int) => (XE.exit 0, frm [(0, .imm 3 (l.map cSecret)), (3, .ptr 0 0 0), (6, .sl 1), (7, .i .i64 zr)], [some (Ent.box [.i .i64 xxThing, .imm 2 (xxMarks.map cMark), .i .i64 xxSalt]), some (Ent.lst 3 (out.map cSecretO))])) ?_ vat
  intro vat
  simp -dsimp +contextual only [↓evA, eZ, Nat.reduceAdd, Nat.reduceMul, Nat.reduceBEq, Nat.reduceLeDiff, Nat.reduceLT, srt]
  try simp only [impl_PutSecret_l5, eY]
  all_goals rfl
theorem e_impl_PutSecret (n : Nat) {R1} {l : List Secret} (xxThing : Int) {R2} {xxMarks : List Mark} (xxSalt : Int) [H1 : EncL cSecret R1 l] [H2 : EncL cMark R2 xxMarks] : CP T (n + 6) 136 [.imm 3 R1, .agg [.i .i64 xxThing, .imm 2 R2, .i .i64 xxSalt]] = (impl_PutSecret l (⟨xxThing, xxMarks, xxSalt⟩ : Secret)).map fun r => .tup [.own 3 (r.1.map cSecretO), .b r.2] := by
  rcases H1, H2 with ⟨⟨rfl⟩, ⟨rfl⟩⟩
  rw [CP_eq]
  simp -dsimp +contextual only [↓evA, eZ, Nat.reduceAdd, Nat.reduceMul, Nat.reduceBEq, Nat.reduceLeDiff, Nat.reduceLT, Tryz.func136, Tryz.f136, a136, srt, e_impl_cloneSecrets, e_impl_secretOf, e_slices_Clone_Mark, e_mt219, e_impl_AreSecrets, e_impl_PutSecret_l5]
  try simp only [impl_PutSecret, eY]
  all_goals first | rfl | (simp +contextual only [evN] <;> rfl)
theorem e_impl_freeFor_l3 (n : Nat) {R1} {l : List Slot} (size : Int) (best : Int) {R2} {t8 : List Slot} (t9 : Int) (t10 : Int) [H1 : EncL cSlot R1 l] [H2 : EncL cSlot R2 t8] : LP T (n + 1) 220 3 (frm [(0, .imm 3 R1), (1, .i .i64 size), (5, .i .i64 best), (8, .imm 3 R2), (9, .i .i64 t9), (10, .i .i64 t10)]) [] =
    (run (impl_freeFor_l3 l size t8 t9) (best, t10)).map (fun (zr : Int) => (XE.exit 0, frm [(5, .i .i64 zr)], [])) := by
  rcases H1, H2 with ⟨⟨rfl⟩, ⟨rfl⟩⟩
  rw [LP_eq]
  simp -dsimp only [↓evA, evB, lpG_eq, Tryz.func220, Tryz.f220, a220, TP, TZ, Nat.reduceAdd, Nat.reduceMul, Nat.reduceBEq, Nat.reduceLeDiff, Nat.reduceLT]
  refine run_map (fun (zs : Int × Int) => (frm [(0, .imm 3 (l.map cSlot)), (1, .i .i64 size), (5, .i .i64 zs.1), (8, .imm 3 (t8.map cSlot)), (9, .i .i64 t9), (10, .i .i64 zs.2)], [])) (fun (zr : Int) => (XE.exit 0, frm [(5, .i .i64 zr)], [])) ?_ (best, t10)
  rintro ⟨best, t10⟩
  simp -dsimp +contextual only [↓evA, eZ, Nat.reduceAdd, Nat.reduceMul, Nat.reduceBEq, Nat.reduceLeDiff, Nat.reduceLT]
  try simp only [impl_freeFor_l3, eY]
  all_goals rfl
theorem e_impl_freeFor (n : Nat) {R1} {l : List Slot} (size : Int) [H1 : EncL cSlot R1 l] : CP T (n + 2) 220 [.imm 3 R1, .i .i64 size] = (impl_freeFor l size).map fun r => .i .i64 r := by
  obtain ⟨rfl⟩ := H1
  rw [CP_eq]
  simp -dsimp +contextual only [↓evA, eZ, Nat.reduceAdd, Nat.reduceMul, Nat.reduceBEq, Nat.reduceLeDiff, Nat.reduceLT, Tryz.func220, Tryz.f220, a220, e_impl_freeFor_l3]
  try simp only [impl_freeFor, eY]
  all_goals rfl
theorem e_impl_slotWith_1 (n : Nat) (xxId : Int) (xxSize : Int) (xxThing : Int) (c : Int) : CP T (n + 1) 203 [.agg [.i .i64 xxId, .i .i64 xxSize, .i .i64 xxThing], .iptr 1 [[.i .i64 c]] 0 0] = (impl_slotWith_1 (⟨xxId, xxSize, xxThing⟩ : Slot) c).map fun r => .b r := by
  rw [CP_eq]
  simp -dsimp +contextual only [↓evA, eZ, Nat.reduceAdd, Nat.reduceMul, Nat.reduceBEq, Nat.reduceLeDiff, Nat.reduceLT, Tryz.func203, Tryz.f203, a203]
  try simp only [impl_slotWith_1, eY]
  all_goals rfl
theorem e_slices_IndexFunc_Slot_cimpl_slotWith_1_l2 (n : Nat) {R1} {s : List Slot} (f : Int) (t7 : Int) (t8 : Int) [H1 : EncL cSlot R1 s] : LP T (n + 2) 202 2 (frm [(0, .imm 3 R1), (1, .clo 203 [.iptr 1 [[.i .i64 f]] 0 0]), (7, .i .i64 t7), (8, .i .i64 t8)]) [] =
    lmap (run (slices_IndexFunc_Slot_cimpl_slotWith_1_l2 s f t7) t8) (fun (zr : Int) => (XE.ret, frm [(4, .i .i64 zr)], [])) (fun (zr : Unit) => (XE.exit 0, frm [], [])) := by
  obtain ⟨rfl⟩ := H1
  rw [LP_eq]
  simp -dsimp only [↓evA, evB, lpG_eq, Tryz.func202, Tryz.f202, a202, TP, TZ, Nat.reduceAdd, Nat.reduceMul, Nat.reduceBEq, Nat.reduceLeDiff, Nat.reduceLT]
  refine run_map (fun (zs : Int) => (frm [(0, .imm 3 (s.map cSlot)), (1, .clo 203 [.iptr 1 [[.i .i64 f]] 0 0]), (7, .i .i64 t7), (8, .i .i64 zs)], [])) (evO (fun (zr : Int) => (XE.ret, frm [(4, .i .i64 zr)], [])) (fun (zr : Unit) => (XE.exit 0, frm [], []))) ?_ t8
  intro t8
  simp -dsimp +contextual only [↓evA, eZ, Nat.reduceAdd, Nat.reduceMul, Nat.reduceBEq, Nat.reduceLeDiff, Nat.reduceLT, e_impl_slotWith_1]
  try simp only [slices_IndexFunc_Slot_cimpl_slotWith_1_l2, eY]
  all_goals rfl
theorem e_slices_IndexFunc_Slot_cimpl_slotWith_1 (n : Nat) {R1} {s : List Slot} (c : Int) [H1 : EncL cSlot R1 s] : CP T (n + 3) 202 [.imm 3 R1, .clo 203 [.iptr 1 [[.i .i64 c]] 0 0]] = (slices_IndexFunc_Slot_cimpl_slotWith_1 s c).map fun r => .i .i64 r := by
  obtain ⟨rfl⟩ := H1
  rw [CP_eq]
  simp -dsimp +contextual only [↓evA, eZ, Nat.reduceAdd, Nat.reduceMul, Nat.reduceBEq, Nat.reduceLeDiff, Nat.reduceLT, Tryz.func202, Tryz.f202, a202, e_slices_IndexFunc_Slot_cimpl_slotWith_1_l2]
  try simp only [slices_IndexFunc_Slot_cimpl_slotWith_1, eY]
  all_goals rfl
theorem e_impl_slotWith (n : Nat) {R1} {l : List Slot} (thing : Int) [H1 : EncL cSlot R1 l] : CP T (n + 4) 114 [.imm 3 R1, .i .i64 thing] = (impl_slotWith l thing).map fun r => .i .i64 r := by
  obtain ⟨rfl⟩ := H1
  rw [CP_eq]
  simp -dsimp +contextual only [↓evA, eZ, Nat.reduceAdd, Nat.reduceMul, Nat.reduceBEq, Nat.reduceLeDiff, Nat.reduceLT, Tryz.func114, Tryz.f114, a114, e_slices_IndexFunc_Slot_cimpl_slotWith_1]
  try simp only [impl_slotWith, eY]
  all_goals rfl
theorem e_impl_SlotOf (n : Nat) {R1} {l : List Slot} (thing : Int) [H1 : EncL cSlot R1 l] : CP T (n + 5) 234 [.imm 3 R1, .i .i64 thing] = (impl_SlotOf l thing).map fun r => .i .i64 r := by
  obtain ⟨rfl⟩ := H1
  rw [CP_eq]
  simp -dsimp +contextual only [↓evA, eZ, Nat.reduceAdd, Nat.reduceMul, Nat.reduceBEq, Nat.reduceLeDiff, Nat.reduceLT, Tryz.func234, Tryz.f234, a234, e_impl_slotWith]
  try simp only [impl_SlotOf, eY]
  all_goals rfl
theorem e_impl_AreSlots_l4 (n : Nat) {R1} {l : List Slot} {R2} {t8 : List Slot} (t9 : Int) (t10 : Int) [H1 : EncL cSlot R1 l] [H2 : EncL cSlot R2 t8] : LP T (n + 6) 158 4 (frm [(0, .imm 3 R1), (8, .imm 3 R2), (9, .i .i64 t9), (10, .i .i64 t10)]) [] =
    lmap (run (impl_AreSlots_l4 l t8 t9) t10) (fun (zr : Bool) => (XE.ret, frm [(2, .b zr)], [])) (fun (zr : Unit) => (XE.exit 0, frm [], [])) := by
  rcases H1, H2 with ⟨⟨rfl⟩, ⟨rfl⟩⟩
  rw [LP_eq]
  simp -dsimp only [↓evA, evB, lpG_eq, Tryz.func158, Tryz.f158, a158, TP, TZ, Nat.reduceAdd, Nat.reduceMul, Nat.reduceBEq, Nat.reduceLeDiff, Nat.reduceLT]
  refine run_map (fun (zs : Int) => (frm [(0, .imm 3 (l.map cSlot)), (8, .imm 3 (t8.map cSlot)), (9, .i .i64 t9), (10, .i .i64 zs)], [])) (evO (fun (zr : Bool) => (XE.ret, frm [(2, .b zr)], [])) (fun (zr : Unit) => (XE.exit 0, frm [], []))) ?_ t10
  intro t10
  simp -dsimp +contextual only [↓evA, eZ, Nat.reduceAdd, Nat.reduceMul, Nat.reduceBEq, Nat.reduceLeDiff, Nat.reduceLT, e_impl_InRange, e_impl_SlotOf]
  try simp only [impl_AreSlots_l4, eY]
  all_goals rfl
theorem e_impl_AreSlots (n : Nat) {R1} {l : List Slot} [H1 : EncL cSlot R1 l] : CP T (n + 7) 158 [.imm 3 R1] = (impl_AreSlots l).map fun r => .b r := by
  obtain ⟨rfl⟩ := H1
  rw [CP_eq]
  simp -dsimp +contextual only [↓evA, eZ, Nat.reduceAdd, Nat.reduceMul, Nat.reduceBEq, Nat.reduceLeDiff, Nat.reduceLT, Tryz.func158, Tryz.f158, a158, e_impl_AreSlots_l4]
  try simp only [impl_AreSlots, eY]
  all_goals rfl
end Go.Proofs.YtcdffihcfeajfaaGreat
