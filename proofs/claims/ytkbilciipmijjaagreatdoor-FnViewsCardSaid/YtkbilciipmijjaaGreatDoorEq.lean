/- The functions of the program come to the typed ones. No condition. -/
import Derived.Test.YtkbilciipmijjaaGreatDoorEq1
namespace Go.Proofs.YtkbilciipmijjaaGreatDoor
open Go Go.Proofs Go.Proofs.YtkbilciipmijjaaGreatDoor.Am
set_option maxHeartbeats 4000000
set_option linter.unusedVariables false
set_option linter.unusedSimpArgs false
set_option linter.defProp false
set_option maxRecDepth 100000
variable (n : Nat)
theorem e_spec_l9Put (a) {R1 l} [H1 : EncL c_i64 R1 l] : CP T (n + 2) 102 [.imm 1 R1, .i .i64 a] = (spec_l9Put l a).map fun r => .own 1 (r.map c_i64) := by
  obtain ⟨rfl⟩ := H1
  rw [CP_eq]
  simp -dsimp +contextual only [↓evA, eZ, Nat.reduceAdd, Nat.reduceMul, Nat.reduceBEq, Nat.reduceLeDiff, Nat.reduceLT, Tryz.func102, Tryz.f102, Aa102, An102, e_spec_l9Put_l2]
  try simp only [spec_l9Put, eY]
  try simp only [List.contains_nil, Bool.not_false, Bool.and_true, e_need_t, List.length_append, List.length_cons, List.length_nil, Nat.zero_add, need_comm, oeq_self]
  all_goals first | rfl | (simp +contextual only [evN] <;> rfl)
theorem e_spec_InHouse_l3 (a i) {R1 l R2 o} [H1 : EncL cHand R1 l] [H2 : EncL c_i64 R2 o] : LP T (n + 8) 92 3 (frm [(0, .imm 5 R1), (1, .i .i64 a), (5, .sl 0), (6, .i .i64 i)]) [some (Ent.lst 1 R2)] =
    (run (spec_InHouse_l3 l a) (o, i)).map (fun (zr : (List Int)) => (XE.exit 0, frm [(5, .sl 0)], [some (Ent.lst 1 (zr.map c_i64))])) := by
  rcases H1, H2 with ⟨⟨rfl⟩, ⟨rfl⟩⟩
  rw [LP_eq]
  simp -dsimp only [↓evA, evB, lpG_eq, Tryz.func92, Tryz.f92, Aa92, An92, TP, TZ, Nat.reduceAdd, Nat.reduceMul, Nat.reduceBEq, Nat.reduceLeDiff, Nat.reduceLT]
  apply run_map2 o i
  intro o i
  simp -dsimp +contextual only [↓evA, eZ, Nat.reduceAdd, Nat.reduceMul, Nat.reduceBEq, Nat.reduceLeDiff, Nat.reduceLT, e_spec_IsChain, e_spec_l16Last, e_spec_l9Put]
  try simp only [spec_InHouse_l3, eY]
  all_goals rfl
theorem e_spec_InHouse (a) {R1 l} [H1 : EncL cHand R1 l] : CP T (n + 9) 92 [.imm 5 R1, .i .i64 a] = (spec_InHouse l a).map fun r => .own 1 (r.map c_i64) := by
  obtain ⟨rfl⟩ := H1
  rw [CP_eq]
  simp -dsimp +contextual only [↓evA, eZ, Nat.reduceAdd, Nat.reduceMul, Nat.reduceBEq, Nat.reduceLeDiff, Nat.reduceLT, Tryz.func92, Tryz.f92, Aa92, An92, e_spec_InHouse_l3]
  try simp only [spec_InHouse, eY]
  all_goals first | rfl | (simp +contextual only [evN] <;> rfl)
theorem e_spec_FindThing_l2 (i i2) {R1 l} [H1 : EncL cFind R1 l] : LP T (n + 1) 93 2 (frm [(0, .imm 8 R1), (1, .i .i64 i), (5, .i .i64 i2)]) [] =
    lmap (run (spec_FindThing_l2 l i) i2) (fun (zr : Int) => (XE.ret, frm [(4, .i .i64 zr)], [])) (fun (zr : Unit) => (XE.exit 0, frm [], [])) := by
  obtain ⟨rfl⟩ := H1
  rw [LP_eq]
  simp -dsimp only [↓evA, evB, lpG_eq, Tryz.func93, Tryz.f93, Aa93, An93, TP, TZ, Nat.reduceAdd, Nat.reduceMul, Nat.reduceBEq, Nat.reduceLeDiff, Nat.reduceLT]
  apply run_map1 i2
  intro i2
  simp -dsimp +contextual only [↓evA, eZ, Nat.reduceAdd, Nat.reduceMul, Nat.reduceBEq, Nat.reduceLeDiff, Nat.reduceLT]
  try simp only [spec_FindThing_l2, eY]
  all_goals rfl
theorem e_spec_FindThing (i) {R1 l} [H1 : EncL cFind R1 l] : CP T (n + 2) 93 [.imm 8 R1, .i .i64 i] = (spec_FindThing l i).map fun r => .i .i64 r := by
  obtain ⟨rfl⟩ := H1
  rw [CP_eq]
  simp -dsimp +contextual only [↓evA, eZ, Nat.reduceAdd, Nat.reduceMul, Nat.reduceBEq, Nat.reduceLeDiff, Nat.reduceLT, Tryz.func93, Tryz.f93, Aa93, An93, e_spec_FindThing_l2]
  try simp only [spec_FindThing, eY]
  all_goals rfl
theorem e_spec_l8Has_l2 (a i) {R1 l} [H1 : EncL c_i64 R1 l] : LP T (n + 1) 94 2 (frm [(0, .imm 1 R1), (1, .i .i64 a), (5, .i .i64 i)]) [] =
    lmap (run (spec_l8Has_l2 l a) i) (fun (zr : Bool) => (XE.ret, frm [(4, .b zr)], [])) (fun (zr : Unit) => (XE.exit 0, frm [], [])) := by
  obtain ⟨rfl⟩ := H1
  rw [LP_eq]
  simp -dsimp only [↓evA, evB, lpG_eq, Tryz.func94, Tryz.f94, Aa94, An94, TP, TZ, Nat.reduceAdd, Nat.reduceMul, Nat.reduceBEq, Nat.reduceLeDiff, Nat.reduceLT]
  apply run_map1 i
  intro i
  simp -dsimp +contextual only [↓evA, eZ, Nat.reduceAdd, Nat.reduceMul, Nat.reduceBEq, Nat.reduceLeDiff, Nat.reduceLT]
  try simp only [spec_l8Has_l2, eY]
  all_goals rfl
theorem e_spec_l8Has (a) {R1 l} [H1 : EncL c_i64 R1 l] : CP T (n + 2) 94 [.imm 1 R1, .i .i64 a] = (spec_l8Has l a).map fun r => .b r := by
  obtain ⟨rfl⟩ := H1
  rw [CP_eq]
  simp -dsimp +contextual only [↓evA, eZ, Nat.reduceAdd, Nat.reduceMul, Nat.reduceBEq, Nat.reduceLeDiff, Nat.reduceLT, Tryz.func94, Tryz.f94, Aa94, An94, e_spec_l8Has_l2]
  try simp only [spec_l8Has, eY]
  all_goals rfl
theorem e_spec_l33Things_l5 (a3) {R1 a R2 a2} [H1 : EncR cHouse R1 a] [H2 : EncL c_i64 R2 a2] : LP T (n + 3) 77 5 (frm [(1, .ptr 0 0 0), (3, .sl 1), (4, .i .i64 a3)]) [some (Ent.box R1), some (Ent.lst 1 R2)] =
    lmap (run (spec_l33Things_l5 a a2) a3) (fun (zr : Bool) => (XE.ret, frm [(2, .b zr)], [])) (fun (zr : Unit) => (XE.exit 0, frm [(1, .ptr 0 0 0), (3, .sl 1)], [some (Ent.box (cHouse a)), some (Ent.lst 1 (a2.map c_i64))])) := by
  rcases H1, H2 with ⟨⟨rfl⟩, ⟨rfl⟩⟩
  rw [LP_eq]
  simp -dsimp only [↓evA, evB, lpG_eq, Tryz.func77, Tryz.f77, Aa77, An77, TP, TZ, Nat.reduceAdd, Nat.reduceMul, Nat.reduceBEq, Nat.reduceLeDiff, Nat.reduceLT]
  apply run_map1 a3
  intro a3
  simp -dsimp +contextual (maxSteps := 100000000) only [↓evA, eZ, Nat.reduceAdd, Nat.reduceMul, Nat.reduceBEq, Nat.reduceLeDiff, Nat.reduceLT, e_spec_FindThing]
  try simp only [spec_l33Things_l5, eY]
  all_goals rfl
theorem e_spec_l33Things_l10 (a3) {R1 a R2 a2} [H1 : EncR cHouse R1 a] [H2 : EncL c_i64 R2 a2] : LP T (n + 3) 77 10 (frm [(1, .ptr 0 0 0), (3, .sl 1), (5, .i .i64 a3)]) [some (Ent.box R1), some (Ent.lst 1 R2)] =
    lmap (run (spec_l33Things_l10 a a2) a3) (fun (zr : Bool) => (XE.ret, frm [(2, .b zr)], [])) (fun (zr : Unit) => (XE.exit 2, frm [(1, .ptr 0 0 0)], [some (Ent.box (cHouse a))])) := by
  rcases H1, H2 with ⟨⟨rfl⟩, ⟨rfl⟩⟩
  rw [LP_eq]
  simp -dsimp only [↓evA, evB, lpG_eq, Tryz.func77, Tryz.f77, Aa77, An77, TP, TZ, Nat.reduceAdd, Nat.reduceMul, Nat.reduceBEq, Nat.reduceLeDiff, Nat.reduceLT]
  apply run_map1 a3
  intro a3
  simp -dsimp +contextual (maxSteps := 100000000) only [↓evA, eZ, Nat.reduceAdd, Nat.reduceMul, Nat.reduceBEq, Nat.reduceLeDiff, Nat.reduceLT, e_spec_SlotOf, e_spec_l8Has]
  try simp only [spec_l33Things_l10, eY]
  all_goals rfl
theorem e_spec_l33Things_l16 (a2) {R1 a} [H1 : EncR cHouse R1 a] : LP T (n + 3) 77 16 (frm [(1, .ptr 0 0 0), (7, .i .i64 a2)]) [some (Ent.box R1)] =
    lmap (run (spec_l33Things_l16 a) a2) (fun (zr : Bool) => (XE.ret, frm [(2, .b zr)], [])) (fun (zr : Unit) => (XE.exit 4, frm [], [])) := by
  obtain ⟨rfl⟩ := H1
  rw [LP_eq]
  simp -dsimp only [↓evA, evB, lpG_eq, Tryz.func77, Tryz.f77, Aa77, An77, TP, TZ, Nat.reduceAdd, Nat.reduceMul, Nat.reduceBEq, Nat.reduceLeDiff, Nat.reduceLT]
  apply run_map1 a2
  intro a2
  simp -dsimp +contextual (maxSteps := 100000000) only [↓evA, eZ, Nat.reduceAdd, Nat.reduceMul, Nat.reduceBEq, Nat.reduceLeDiff, Nat.reduceLT, e_spec_FindThing]
  try simp only [spec_l33Things_l16, eY]
  all_goals rfl
theorem e_spec_l33Things {R1 a} [H1 : EncR cHouse R1 a] : CP T (n + 10) 77 [.agg R1] = (spec_l33Things a).map fun r => .b r := by
  obtain ⟨rfl⟩ := H1
  rw [CP_eq]
  simp -dsimp +contextual (maxSteps := 100000000) only [↓evA, eZ, Nat.reduceAdd, Nat.reduceMul, Nat.reduceBEq, Nat.reduceLeDiff, Nat.reduceLT, Tryz.func77, Tryz.f77, Aa77, An77, e_spec_InHouse, e_spec_l33Things_l5, e_spec_l33Things_l10, e_spec_l33Things_l16]
  try simp only [spec_l33Things, eY]
  all_goals rfl
theorem e_spec_IsTrial {R1 a} [H1 : EncR cTrial R1 a] : CP T (n + 2) 95 [.agg R1] = (spec_IsTrial a).map fun r => .b r := by
  obtain ⟨rfl⟩ := H1
  rw [CP_eq]
  simp -dsimp +contextual only [↓evA, eZ, Nat.reduceAdd, Nat.reduceMul, Nat.reduceBEq, Nat.reduceLeDiff, Nat.reduceLT, Tryz.func95, Tryz.f95, Aa95, An95, e_spec_l1In]
  try simp only [spec_IsTrial, eY]
  all_goals rfl
theorem e_spec_l31Find_l2 (a i) {R1 l} [H1 : EncL cSecret R1 l] : LP T (n + 1) 104 2 (frm [(0, .imm 3 R1), (1, .i .i64 a), (5, .i .i64 i)]) [] =
    lmap (run (spec_l31Find_l2 l a) i) (fun (zr : Int) => (XE.ret, frm [(4, .i .i64 zr)], [])) (fun (zr : Unit) => (XE.exit 0, frm [], [])) := by
  obtain ⟨rfl⟩ := H1
  rw [LP_eq]
  simp -dsimp only [↓evA, evB, lpG_eq, Tryz.func104, Tryz.f104, Aa104, An104, TP, TZ, Nat.reduceAdd, Nat.reduceMul, Nat.reduceBEq, Nat.reduceLeDiff, Nat.reduceLT]
  apply run_map1 i
  intro i
  simp -dsimp +contextual only [↓evA, eZ, Nat.reduceAdd, Nat.reduceMul, Nat.reduceBEq, Nat.reduceLeDiff, Nat.reduceLT]
  try simp only [spec_l31Find_l2, eY]
  all_goals rfl
theorem e_spec_l31Find (a) {R1 l} [H1 : EncL cSecret R1 l] : CP T (n + 2) 104 [.imm 3 R1, .i .i64 a] = (spec_l31Find l a).map fun r => .i .i64 r := by
  obtain ⟨rfl⟩ := H1
  rw [CP_eq]
  simp -dsimp +contextual only [↓evA, eZ, Nat.reduceAdd, Nat.reduceMul, Nat.reduceBEq, Nat.reduceLeDiff, Nat.reduceLT, Tryz.func104, Tryz.f104, Aa104, An104, e_spec_l31Find_l2]
  try simp only [spec_l31Find, eY]
  all_goals rfl
theorem e_spec_MarksOf (a) {R1 l} [H1 : EncL cSecret R1 l] : CP T (n + 3) 97 [.imm 3 R1, .i .i64 a] = (spec_MarksOf l a).map fun r => .own 2 (r.map cMark) := by
  obtain ⟨rfl⟩ := H1
  rw [CP_eq]
  simp -dsimp +contextual only [↓evA, eZ, Nat.reduceAdd, Nat.reduceMul, Nat.reduceBEq, Nat.reduceLeDiff, Nat.reduceLT, Tryz.func97, Tryz.f97, Aa97, An97, e_spec_l31Find]
  try simp only [spec_MarksOf, eY]
  all_goals first | rfl | (simp +contextual only [evN] <;> rfl)
theorem e_spec_Min (a b) : CP T (n + 1) 106 [.i .i64 a, .i .i64 b] = (spec_Min a b).map fun r => .i .i64 r := by
  rw [CP_eq]
  simp -dsimp +contextual only [↓evA, eZ, Nat.reduceAdd, Nat.reduceMul, Nat.reduceBEq, Nat.reduceLeDiff, Nat.reduceLT, Tryz.func106, Tryz.f106, Aa106, An106]
  try simp only [spec_Min, eY]
  all_goals rfl
theorem e_spec_NeedFor {R1 l} [H1 : EncL cMark R1 l] : CP T (n + 2) 103 [.imm 2 R1] = (spec_NeedFor l).map fun r => .i .i64 r := by
  obtain ⟨rfl⟩ := H1
  rw [CP_eq]
  simp -dsimp +contextual only [↓evA, eZ, Nat.reduceAdd, Nat.reduceMul, Nat.reduceBEq, Nat.reduceLeDiff, Nat.reduceLT, Tryz.func103, Tryz.f103, Aa103, An103, e_spec_Min]
  try simp only [spec_NeedFor, eY]
  all_goals rfl
theorem e_spec_TrialState {R1 l R2 a} [H1 : EncL cMark R1 l] [H2 : EncR cTrial R2 a] : CP T (n + 4) 96 [.imm 2 R1, .agg R2] = (spec_TrialState l a).map fun r => .i .i64 r := by
  rcases H1, H2 with ⟨⟨rfl⟩, ⟨rfl⟩⟩
  rw [CP_eq]
  simp -dsimp +contextual only [↓evA, eZ, Nat.reduceAdd, Nat.reduceMul, Nat.reduceBEq, Nat.reduceLeDiff, Nat.reduceLT, Tryz.func96, Tryz.f96, Aa96, An96, e_spec_IsTrial, e_spec_AreMarks, e_spec_NeedFor]
  try simp only [spec_TrialState, eY]
  all_goals rfl
theorem e_spec_l33Claims_l4 (a2) {R1 a} [H1 : EncR cHouse R1 a] : LP T (n + 5) 78 4 (frm [(1, .ptr 0 0 0), (3, .i .i64 a2)]) [some (Ent.box R1)] =
    lmap (run (spec_l33Claims_l4 a) a2) (fun (zr : Bool) => (XE.ret, frm [(2, .b zr)], [])) (fun (zr : Unit) => (XE.exit 0, frm [], [])) := by
  obtain ⟨rfl⟩ := H1
  rw [LP_eq]
  simp -dsimp only [↓evA, evB, lpG_eq, Tryz.func78, Tryz.f78, Aa78, An78, TP, TZ, Nat.reduceAdd, Nat.reduceMul, Nat.reduceBEq, Nat.reduceLeDiff, Nat.reduceLT]
  apply run_map1 a2
  intro a2
  simp -dsimp +contextual (maxSteps := 100000000) only [↓evA, eZ, Nat.reduceAdd, Nat.reduceMul, Nat.reduceBEq, Nat.reduceLeDiff, Nat.reduceLT, e_spec_FindThing, e_spec_IsTrial, e_spec_MarksOf, e_spec_TrialState]
  try simp only [spec_l33Claims_l4, eY]
  all_goals rfl
theorem e_spec_l33Claims {R1 a} [H1 : EncR cHouse R1 a] : CP T (n + 6) 78 [.agg R1] = (spec_l33Claims a).map fun r => .b r := by
  obtain ⟨rfl⟩ := H1
  rw [CP_eq]
  simp -dsimp +contextual (maxSteps := 100000000) only [↓evA, eZ, Nat.reduceAdd, Nat.reduceMul, Nat.reduceBEq, Nat.reduceLeDiff, Nat.reduceLT, Tryz.func78, Tryz.f78, Aa78, An78, e_spec_l33Claims_l4]
  try simp only [spec_l33Claims, eY]
  all_goals rfl
theorem e_spec_IsHouse {R1 a} [H1 : EncR cHouse R1 a] : CP T (n + 11) 51 [.agg R1] = (spec_IsHouse a).map fun r => .b r := by
  obtain ⟨rfl⟩ := H1
  rw [CP_eq]
  simp -dsimp +contextual (maxSteps := 100000000) only [↓evA, eZ, Nat.reduceAdd, Nat.reduceMul, Nat.reduceBEq, Nat.reduceLeDiff, Nat.reduceLT, Tryz.func51, Tryz.f51, Aa51, An51, e_spec_l1In, e_spec_AreFinds, e_spec_AreSecrets, e_spec_AreSlots, e_spec_AreClaims, e_spec_IsChain, e_spec_AreEntries, e_spec_l33Things, e_spec_l33Claims]
  try simp only [spec_IsHouse, eY]
  all_goals rfl
theorem e_spec_FreeSlots_l3 (a i) {R1 l} [H1 : EncL cSlot R1 l] : LP T (n + 1) 52 3 (frm [(0, .imm 3 R1), (3, .i .i64 a), (4, .i .i64 i)]) [] =
    (run (spec_FreeSlots_l3 l) (a, i)).map (fun (zr : Int) => (XE.exit 0, frm [(3, .i .i64 zr)], [])) := by
  obtain ⟨rfl⟩ := H1
  rw [LP_eq]
  simp -dsimp only [↓evA, evB, lpG_eq, Tryz.func52, Tryz.f52, Aa52, An52, TP, TZ, Nat.reduceAdd, Nat.reduceMul, Nat.reduceBEq, Nat.reduceLeDiff, Nat.reduceLT]
  apply run_map2 a i
  intro a i
  simp -dsimp +contextual only [↓evA, eZ, Nat.reduceAdd, Nat.reduceMul, Nat.reduceBEq, Nat.reduceLeDiff, Nat.reduceLT]
  try simp only [spec_FreeSlots_l3, eY]
  all_goals rfl
theorem e_spec_FreeSlots {R1 l} [H1 : EncL cSlot R1 l] : CP T (n + 2) 52 [.imm 3 R1] = (spec_FreeSlots l).map fun r => .i .i64 r := by
  obtain ⟨rfl⟩ := H1
  rw [CP_eq]
  simp -dsimp +contextual only [↓evA, eZ, Nat.reduceAdd, Nat.reduceMul, Nat.reduceBEq, Nat.reduceLeDiff, Nat.reduceLT, Tryz.func52, Tryz.f52, Aa52, An52, e_spec_FreeSlots_l3]
  try simp only [spec_FreeSlots, eY]
  all_goals rfl
theorem e_spec_NewHouse (a) {R1 s} [H1 : EncL cSlot R1 s] : CP T (n + 12) 37 [.i .i64 a, .imm 3 R1] = (spec_NewHouse a s).map fun r => .tup [.agg (cHouseO r.1), .b r.2] := by
  obtain ⟨rfl⟩ := H1
  rw [CP_eq]
  simp -dsimp +contextual only [↓evA, eZ, Nat.reduceAdd, Nat.reduceMul, Nat.reduceBEq, Nat.reduceLeDiff, Nat.reduceLT, Tryz.func37, Tryz.f37, Aa37, An37, e_spec_l33Copy, e_spec_IsHouse, e_spec_FreeSlots]
  try simp only [spec_NewHouse, eY]
  all_goals rfl
theorem e_spec_l6Draw (i) {R1 c} [H1 : EncR cl1Cur R1 c] : CA T (n + 4) 79 [some (Ent.box R1)] [.ptr 0 0 0, .i .i64 i] = (spec_l6Draw c i).map fun r => (.agg (cFind r.2), [some (Ent.box (cl1Cur r.1))]) := by
  obtain ⟨rfl⟩ := H1
  rw [CA_eq]
  simp -dsimp +contextual (maxSteps := 100000000) only [↓evA, eZ, Nat.reduceAdd, Nat.reduceMul, Nat.reduceBEq, Nat.reduceLeDiff, Nat.reduceLT, Tryz.func79, Tryz.f79, Aa79, An79, srt, e_spec_l4Draw, e_spec_l1Below]
  try simp only [spec_l6Draw, eY]
  all_goals rfl
theorem e_spec_l6List_l3 (i) {R1 c R2 l} [H1 : EncR cl1Cur R1 c] [H2 : EncL cFind R2 l] : LP T (n + 5) 53 3 (frm [(0, .ptr 0 0 0), (3, .sl 1), (4, .i .i64 i)]) [some (Ent.box R1), some (Ent.lst 8 R2)] =
    (run spec_l6List_l3 (c, l, i)).map (fun (zr : l1Cur × (List Find)) => (XE.exit 0, frm [(0, .ptr 0 0 0), (3, .sl 1)], [some (Ent.box (cl1Cur zr.1)), some (Ent.lst 8 (zr.2.map cFind))])) := by
  rcases H1, H2 with ⟨⟨rfl⟩, ⟨rfl⟩⟩
  rw [LP_eq]
  simp -dsimp only [↓evA, evB, lpG_eq, Tryz.func53, Tryz.f53, Aa53, An53, TP, TZ, Nat.reduceAdd, Nat.reduceMul, Nat.reduceBEq, Nat.reduceLeDiff, Nat.reduceLT]
  apply run_map3 c l i
  intro c l i
  simp -dsimp +contextual only [↓evA, eZ, Nat.reduceAdd, Nat.reduceMul, Nat.reduceBEq, Nat.reduceLeDiff, Nat.reduceLT, srt, e_spec_l1Below, e_spec_l6Draw]
  try simp only [spec_l6List_l3, eY]
  all_goals rfl
theorem e_spec_l6List {R1 c} [H1 : EncR cl1Cur R1 c] : CA T (n + 6) 53 [some (Ent.box R1)] [.ptr 0 0 0] = (spec_l6List c).map fun r => (.sl 1, [some (Ent.box (cl1Cur r.1)), some (Ent.lst 8 (r.2.map cFind))]) := by
  obtain ⟨rfl⟩ := H1
  rw [CA_eq]
  simp -dsimp +contextual (maxSteps := 100000000) only [↓evA, eZ, Nat.reduceAdd, Nat.reduceMul, Nat.reduceBEq, Nat.reduceLeDiff, Nat.reduceLT, Tryz.func53, Tryz.f53, Aa53, An53, srt, e_spec_l6List_l3]
  try simp only [spec_l6List, eY]
  all_goals rfl
theorem e_spec_l4Any {R1 c} [H1 : EncR cl1Cur R1 c] : CA T (n + 5) 54 [some (Ent.box R1)] [.ptr 0 0 0] = (spec_l4Any c).map fun r => (.agg (cThing r.2), [some (Ent.box (cl1Cur r.1))]) := by
  obtain ⟨rfl⟩ := H1
  rw [CA_eq]
  simp -dsimp +contextual (maxSteps := 100000000) only [↓evA, eZ, Nat.reduceAdd, Nat.reduceMul, Nat.reduceBEq, Nat.reduceLeDiff, Nat.reduceLT, Tryz.func54, Tryz.f54, Aa54, An54, srt, e_spec_l1Below, e_spec_l4Draw, e_spec_l1Int_o1, e_spec_l4Raw]
  try simp only [spec_l4Any, eY]
  all_goals rfl
theorem e_spec_l6Any {R1 c} [H1 : EncR cl1Cur R1 c] : CA T (n + 7) 39 [some (Ent.box R1)] [.ptr 0 0 0] = (spec_l6Any c).map fun r => (.sl 1, [some (Ent.box (cl1Cur r.1)), some (Ent.lst 8 (r.2.map cFind))]) := by
  obtain ⟨rfl⟩ := H1
  rw [CA_eq]
  simp -dsimp +contextual (maxSteps := 100000000) only [↓evA, eZ, Nat.reduceAdd, Nat.reduceMul, Nat.reduceBEq, Nat.reduceLeDiff, Nat.reduceLT, Tryz.func39, Tryz.f39, Aa39, An39, srt, e_spec_l6List, e_spec_l1Below, e_spec_l4Any, e_spec_l1Int_o1, e_spec_l4Raw]
  try simp only [spec_l6Any, eY]
  all_goals rfl
theorem e_spec_l16One (a) {R1 c} [H1 : EncR cl1Cur R1 c] : CA T (n + 4) 81 [some (Ent.box R1)] [.ptr 0 0 0, .i .i64 a] = (spec_l16One c a).map fun r => (.agg (cHand r.2), [some (Ent.box (cl1Cur r.1))]) := by
  obtain ⟨rfl⟩ := H1
  rw [CA_eq]
  simp -dsimp +contextual (maxSteps := 100000000) only [↓evA, eZ, Nat.reduceAdd, Nat.reduceMul, Nat.reduceBEq, Nat.reduceLeDiff, Nat.reduceLT, Tryz.func81, Tryz.f81, Aa81, An81, srt, e_spec_l1Below, e_spec_l1Int_o1]
  try simp only [spec_l16One, eY]
  all_goals rfl
theorem e_spec_AddHand {R1 l R2 a} [H1 : EncL cHand R1 l] [H2 : EncR cHand R2 a] : CP T (n + 8) 80 [.imm 5 R1, .agg R2] = (spec_AddHand l a).map fun r => .tup [.own 5 (r.1.map cHand), .b r.2] := by
  rcases H1, H2 with ⟨⟨rfl⟩, ⟨rfl⟩⟩
  rw [CP_eq]
  simp -dsimp +contextual only [↓evA, eZ, Nat.reduceAdd, Nat.reduceMul, Nat.reduceBEq, Nat.reduceLeDiff, Nat.reduceLT, Tryz.func80, Tryz.f80, Aa80, An80, e_spec_HandSeal, e_spec_IsChain]
  try simp only [spec_AddHand, eY]
  try simp only [List.contains_nil, Bool.not_false, Bool.and_true, e_need_t, List.length_append, List.length_cons, List.length_nil, Nat.zero_add, need_comm, oeq_self]
  all_goals first | rfl | (simp +contextual only [evN] <;> rfl)
theorem e_spec_l16Draw_l4 (a i) {R1 c R2 l} [H1 : EncR cl1Cur R1 c] [H2 : EncL cHand R2 l] : LP T (n + 9) 55 4 (frm [(0, .ptr 0 0 0), (3, .sl 1), (4, .i .i64 a), (5, .i .i64 i)]) [some (Ent.box R1), some (Ent.lst 5 R2)] =
    (run spec_l16Draw_l4 (c, l, a, i)).map (fun (zr : l1Cur × (List Hand)) => (XE.exit 0, frm [(0, .ptr 0 0 0), (3, .sl 1)], [some (Ent.box (cl1Cur zr.1)), some (Ent.lst 5 (zr.2.map cHand))])) := by
  rcases H1, H2 with ⟨⟨rfl⟩, ⟨rfl⟩⟩
  rw [LP_eq]
  simp -dsimp only [↓evA, evB, lpG_eq, Tryz.func55, Tryz.f55, Aa55, An55, TP, TZ, Nat.reduceAdd, Nat.reduceMul, Nat.reduceBEq, Nat.reduceLeDiff, Nat.reduceLT]
  apply run_map4 c l a i
  intro c l a i
  simp -dsimp +contextual only [↓evA, eZ, Nat.reduceAdd, Nat.reduceMul, Nat.reduceBEq, Nat.reduceLeDiff, Nat.reduceLT, srt, e_spec_l16One, e_spec_AddHand, e_spec_l1Below]
  try simp only [spec_l16Draw_l4, eY]
  all_goals rfl
theorem e_spec_l16Draw {R1 c} [H1 : EncR cl1Cur R1 c] : CA T (n + 10) 55 [some (Ent.box R1)] [.ptr 0 0 0] = (spec_l16Draw c).map fun r => (.sl 1, [some (Ent.box (cl1Cur r.1)), some (Ent.lst 5 (r.2.map cHand))]) := by
  obtain ⟨rfl⟩ := H1
  rw [CA_eq]
  simp -dsimp +contextual (maxSteps := 100000000) only [↓evA, eZ, Nat.reduceAdd, Nat.reduceMul, Nat.reduceBEq, Nat.reduceLeDiff, Nat.reduceLT, Tryz.func55, Tryz.f55, Aa55, An55, srt, e_spec_l1Below, e_spec_l16Draw_l4]
  try simp only [spec_l16Draw, eY]
  all_goals rfl
theorem e_spec_l16Any {R1 c} [H1 : EncR cl1Cur R1 c] : CA T (n + 11) 40 [some (Ent.box R1)] [.ptr 0 0 0] = (spec_l16Any c).map fun r => (.sl 1, [some (Ent.box (cl1Cur r.1)), some (Ent.lst 5 (r.2.map cHand))]) := by
  obtain ⟨rfl⟩ := H1
  rw [CA_eq]
  simp -dsimp +contextual (maxSteps := 100000000) only [↓evA, eZ, Nat.reduceAdd, Nat.reduceMul, Nat.reduceBEq, Nat.reduceLeDiff, Nat.reduceLT, Tryz.func40, Tryz.f40, Aa40, An40, srt, e_spec_l16Draw, e_spec_l1Below, e_spec_l1Int_o1, e_spec_l4Raw]
  try simp only [spec_l16Any, eY]
  all_goals rfl
theorem e_spec_AddEntry {R1 l R2 a} [H1 : EncL cEntry R1 l] [H2 : EncR cEntry R2 a] : CP T (n + 4) 56 [.imm 4 R1, .agg R2] = (spec_AddEntry l a).map fun r => .tup [.own 4 (r.1.map cEntry), .b r.2] := by
  rcases H1, H2 with ⟨⟨rfl⟩, ⟨rfl⟩⟩
  rw [CP_eq]
  simp -dsimp +contextual only [↓evA, eZ, Nat.reduceAdd, Nat.reduceMul, Nat.reduceBEq, Nat.reduceLeDiff, Nat.reduceLT, Tryz.func56, Tryz.f56, Aa56, An56, e_spec_AreEntries]
  try simp only [spec_AddEntry, eY]
  try simp only [List.contains_nil, Bool.not_false, Bool.and_true, e_need_t, List.length_append, List.length_cons, List.length_nil, Nat.zero_add, need_comm, oeq_self]
  all_goals first | rfl | (simp +contextual only [evN] <;> rfl)
theorem e_spec_l29Any_l4 (a2 a3) {R1 c R2 a} [H1 : EncR cl1Cur R1 c] [H2 : EncL cEntry R2 a] : LP T (n + 5) 41 4 (frm [(0, .ptr 0 0 0), (3, .sl 1), (4, .i .i64 a2), (5, .i .i64 a3)]) [some (Ent.box R1), some (Ent.lst 4 R2)] =
    (run spec_l29Any_l4 (c, a, a2, a3)).map (fun (zr : l1Cur × (List Entry)) => (XE.exit 0, frm [(0, .ptr 0 0 0), (3, .sl 1)], [some (Ent.box (cl1Cur zr.1)), some (Ent.lst 4 (zr.2.map cEntry))])) := by
  rcases H1, H2 with ⟨⟨rfl⟩, ⟨rfl⟩⟩
  rw [LP_eq]
  simp -dsimp only [↓evA, evB, lpG_eq, Tryz.func41, Tryz.f41, Aa41, An41, TP, TZ, Nat.reduceAdd, Nat.reduceMul, Nat.reduceBEq, Nat.reduceLeDiff, Nat.reduceLT]
  apply run_map4 c a a2 a3
  intro c a a2 a3
  simp -dsimp +contextual only [↓evA, eZ, Nat.reduceAdd, Nat.reduceMul, Nat.reduceBEq, Nat.reduceLeDiff, Nat.reduceLT, srt, e_spec_l1Below, e_spec_AddEntry]
  try simp only [spec_l29Any_l4, eY]
  all_goals rfl
theorem e_spec_l29Any {R1 c} [H1 : EncR cl1Cur R1 c] : CA T (n + 6) 41 [some (Ent.box R1)] [.ptr 0 0 0] = (spec_l29Any c).map fun r => (.sl 1, [some (Ent.box (cl1Cur r.1)), some (Ent.lst 4 (r.2.map cEntry))]) := by
  obtain ⟨rfl⟩ := H1
  rw [CA_eq]
  simp -dsimp +contextual (maxSteps := 100000000) only [↓evA, eZ, Nat.reduceAdd, Nat.reduceMul, Nat.reduceBEq, Nat.reduceLeDiff, Nat.reduceLT, Tryz.func41, Tryz.f41, Aa41, An41, srt, e_spec_l1Below, e_spec_l1Int_o1, e_spec_l4Raw, e_spec_l29Any_l4]
  try simp only [spec_l29Any, eY]
  all_goals rfl
theorem e_spec_PutMark_l2 (k) {R1 l R2 m} [H1 : EncL cMark R1 l] [H2 : EncR cMark R2 m] : LP T (n + 1) 98 2 (frm [(0, .imm 2 R1), (3, .ptr 0 0 0), (6, .i .i64 k)]) [some (Ent.box R2)] =
    (run (spec_PutMark_l2 l m) k).map (fun (zr : Int) => (XE.exit 0, frm [(0, .imm 2 (l.map cMark)), (3, .ptr 0 0 0), (6, .i .i64 zr)], [some (Ent.box (cMark m))])) := by
  rcases H1, H2 with ⟨⟨rfl⟩, ⟨rfl⟩⟩
  rw [LP_eq]
  simp -dsimp only [↓evA, evB, lpG_eq, Tryz.func98, Tryz.f98, Aa98, An98, TP, TZ, Nat.reduceAdd, Nat.reduceMul, Nat.reduceBEq, Nat.reduceLeDiff, Nat.reduceLT]
  apply run_map1 k
  intro k
  simp -dsimp +contextual only [↓evA, eZ, Nat.reduceAdd, Nat.reduceMul, Nat.reduceBEq, Nat.reduceLeDiff, Nat.reduceLT]
  try simp only [spec_PutMark_l2, eY]
  try simp only [List.contains_nil, Bool.not_false, Bool.and_true, e_need_t, List.length_append, List.length_cons, List.length_nil, Nat.zero_add, need_comm, oeq_self]
  all_goals rfl
theorem e_spec_PutMark {R1 l R2 m} [H1 : EncL cMark R1 l] [H2 : EncR cMark R2 m] : CP T (n + 4) 98 [.imm 2 R1, .agg R2] = (spec_PutMark l m).map fun r => .tup [.own 2 (r.1.map cMark), .b r.2] := by
  rcases H1, H2 with ⟨⟨rfl⟩, ⟨rfl⟩⟩
  rw [CP_eq]
  simp -dsimp +contextual only [↓evA, eZ, Nat.reduceAdd, Nat.reduceMul, Nat.reduceBEq, Nat.reduceLeDiff, Nat.reduceLT, Tryz.func98, Tryz.f98, Aa98, An98, e_spec_AreMarks, e_spec_PutMark_l2]
  try simp only [spec_PutMark, eY]
  try simp only [List.contains_nil, Bool.not_false, Bool.and_true, e_need_t, List.length_append, List.length_cons, List.length_nil, Nat.zero_add, need_comm, oeq_self]
  all_goals first | rfl | (simp +contextual only [evN] <;> rfl)
theorem e_spec_l11Draw_l3 (i) {R1 c R2 l} [H1 : EncR cl1Cur R1 c] [H2 : EncL cMark R2 l] : LP T (n + 5) 82 3 (frm [(0, .ptr 0 0 0), (3, .sl 1), (4, .i .i64 i)]) [some (Ent.box R1), some (Ent.lst 2 R2)] =
    (run spec_l11Draw_l3 (c, l, i)).map (fun (zr : l1Cur × (List Mark)) => (XE.exit 0, frm [(0, .ptr 0 0 0), (3, .sl 1)], [some (Ent.box (cl1Cur zr.1)), some (Ent.lst 2 (zr.2.map cMark))])) := by
  rcases H1, H2 with ⟨⟨rfl⟩, ⟨rfl⟩⟩
  rw [LP_eq]
  simp -dsimp only [↓evA, evB, lpG_eq, Tryz.func82, Tryz.f82, Aa82, An82, TP, TZ, Nat.reduceAdd, Nat.reduceMul, Nat.reduceBEq, Nat.reduceLeDiff, Nat.reduceLT]
  apply run_map3 c l i
  intro c l i
  simp -dsimp +contextual only [↓evA, eZ, Nat.reduceAdd, Nat.reduceMul, Nat.reduceBEq, Nat.reduceLeDiff, Nat.reduceLT, srt, e_spec_l1Below, e_spec_PutMark]
  try simp only [spec_l11Draw_l3, eY]
  all_goals rfl
theorem e_spec_l11Draw {R1 c} [H1 : EncR cl1Cur R1 c] : CA T (n + 6) 82 [some (Ent.box R1)] [.ptr 0 0 0] = (spec_l11Draw c).map fun r => (.sl 1, [some (Ent.box (cl1Cur r.1)), some (Ent.lst 2 (r.2.map cMark))]) := by
  obtain ⟨rfl⟩ := H1
  rw [CA_eq]
  simp -dsimp +contextual (maxSteps := 100000000) only [↓evA, eZ, Nat.reduceAdd, Nat.reduceMul, Nat.reduceBEq, Nat.reduceLeDiff, Nat.reduceLT, Tryz.func82, Tryz.f82, Aa82, An82, srt, e_spec_l1Below, e_spec_l11Draw_l3]
  try simp only [spec_l11Draw, eY]
  all_goals rfl
theorem e_spec_l31One (a) {R1 c} [H1 : EncR cl1Cur R1 c] : CA T (n + 7) 57 [some (Ent.box R1)] [.ptr 0 0 0, .i .i64 a] = (spec_l31One c a).map fun r => (.agg [.i .i64 r.2.Thing, .sl 1, .i .i64 r.2.Salt], [some (Ent.box (cl1Cur r.1)), some (Ent.lst 2 (r.2.Marks.map cMark))]) := by
  obtain ⟨rfl⟩ := H1
  rw [CA_eq]
  simp -dsimp +contextual (maxSteps := 100000000) only [↓evA, eZ, Nat.reduceAdd, Nat.reduceMul, Nat.reduceBEq, Nat.reduceLeDiff, Nat.reduceLT, Tryz.func57, Tryz.f57, Aa57, An57, srt, e_spec_l11Draw, e_spec_l1Below]
  try simp only [spec_l31One, eY]
  all_goals rfl
theorem e_spec_l11Any {R1 c} [H1 : EncR cl1Cur R1 c] : CA T (n + 7) 58 [some (Ent.box R1)] [.ptr 0 0 0] = (spec_l11Any c).map fun r => (.sl 1, [some (Ent.box (cl1Cur r.1)), some (Ent.lst 2 (r.2.map cMark))]) := by
  obtain ⟨rfl⟩ := H1
  rw [CA_eq]
  simp -dsimp +contextual (maxSteps := 100000000) only [↓evA, eZ, Nat.reduceAdd, Nat.reduceMul, Nat.reduceBEq, Nat.reduceLeDiff, Nat.reduceLT, Tryz.func58, Tryz.f58, Aa58, An58, srt, e_spec_l11Draw, e_spec_l1Below, e_spec_l1Int_o1]
  try simp only [spec_l11Any, eY]
  all_goals rfl
theorem e_spec_l31Any_l3 (i) {R1 c R2 l} [H1 : EncR cl1Cur R1 c] [H2 : EncL cSecretO R2 l] : LP T (n + 8) 42 3 (frm [(0, .ptr 0 0 0), (3, .sl 1), (4, .i .i64 i)]) [some (Ent.box R1), some (Ent.lst 3 R2)] =
    (run spec_l31Any_l3 (c, l, i)).map (fun (zr : l1Cur × (List Secret)) => (XE.exit 0, frm [(0, .ptr 0 0 0), (3, .sl 1)], [some (Ent.box (cl1Cur zr.1)), some (Ent.lst 3 (zr.2.map cSecretO))])) := by
  rcases H1, H2 with ⟨⟨rfl⟩, ⟨rfl⟩⟩
  rw [LP_eq]
  simp -dsimp only [↓evA, evB, lpG_eq, Tryz.func42, Tryz.f42, Aa42, An42, TP, TZ, Nat.reduceAdd, Nat.reduceMul, Nat.reduceBEq, Nat.reduceLeDiff, Nat.reduceLT]
  apply run_map3 c l i
  intro c l i
  simp -dsimp +contextual only [↓evA, eZ, Nat.reduceAdd, Nat.reduceMul, Nat.reduceBEq, Nat.reduceLeDiff, Nat.reduceLT, srt, e_spec_l1Below, e_spec_l31One]
  try simp only [spec_l31Any_l3, eY]
  all_goals rfl
theorem e_spec_l31Any {R1 c} [H1 : EncR cl1Cur R1 c] : CA T (n + 9) 42 [some (Ent.box R1)] [.ptr 0 0 0] = (spec_l31Any c).map fun r => (.sl 1, [some (Ent.box (cl1Cur r.1)), some (Ent.lst 3 (r.2.map cSecretO))]) := by
  obtain ⟨rfl⟩ := H1
  rw [CA_eq]
  simp -dsimp +contextual (maxSteps := 100000000) only [↓evA, eZ, Nat.reduceAdd, Nat.reduceMul, Nat.reduceBEq, Nat.reduceLeDiff, Nat.reduceLT, Tryz.func42, Tryz.f42, Aa42, An42, srt, e_spec_l1Below, e_spec_l1Int_o1, e_spec_l11Any, e_spec_l31Any_l3]
  try simp only [spec_l31Any, eY]
  all_goals rfl
theorem e_spec_l33Any {R1 c} [H1 : EncR cl1Cur R1 c] : CA T (n + 13) 29 [some (Ent.box R1)] [.ptr 0 0 0] = (spec_l33Any c).map fun r => (.agg [.i .i64 r.2.No, .sl 1, .sl 2, .sl 3, .sl 4, .sl 5, .sl 6, .sl 7, .i .i64 r.2.Now], [some (Ent.box (cl1Cur r.1)), some (Ent.lst 8 (r.2.Finds.map cFind)), some (Ent.lst 3 (r.2.Secrets.map cSecretO)), some (Ent.lst 3 (r.2.Slots.map cSlot)), some (Ent.lst 5 (r.2.Claims.map cClaim)), some (Ent.lst 4 (r.2.Trials.map cTrial)), some (Ent.lst 5 (r.2.Chain.map cHand)), some (Ent.lst 4 (r.2.Book.map cEntry))]) := by
  obtain ⟨rfl⟩ := H1
  rw [CA_eq]
  simp -dsimp +contextual (maxSteps := 100000000) only [↓evA, eZ, Nat.reduceAdd, Nat.reduceMul, Nat.reduceBEq, Nat.reduceLeDiff, Nat.reduceLT, Tryz.func29, Tryz.f29, Aa29, An29, srt, e_spec_l1Below, e_spec_l33Slots, e_spec_NewHouse, e_spec_l1Int_o1, e_spec_l6Any, e_spec_l14Any, e_spec_l13Any, e_spec_l16Any, e_spec_l29Any, e_spec_l31Any]
  try simp only [spec_l33Any, eY]
  all_goals rfl
theorem e_spec_DrawIsHouse {R1 c} [H1 : EncL c_u8 R1 c] : CP T (n + 14) 23 [.imm 1 R1] = (spec_DrawIsHouse c).map fun r => .agg (cHouseO r) := by
  obtain ⟨rfl⟩ := H1
  rw [CP_eq]
  simp -dsimp +contextual only [↓evA, eZ, Nat.reduceAdd, Nat.reduceMul, Nat.reduceBEq, Nat.reduceLeDiff, Nat.reduceLT, Tryz.func23, Tryz.f23, Aa23, An23, srt, e_spec_l1New, e_spec_l33Any]
  try simp only [spec_DrawIsHouse, eY]
  all_goals rfl
theorem e_spec_DrawFormatHouse {R1 c} [H1 : EncL c_u8 R1 c] : CP T (n + 15) 12 [.imm 1 R1] = (spec_DrawFormatHouse c).map fun r => .agg (cHouseO r) := by
  obtain ⟨rfl⟩ := H1
  rw [CP_eq]
  simp -dsimp +contextual only [↓evA, eZ, Nat.reduceAdd, Nat.reduceMul, Nat.reduceBEq, Nat.reduceLeDiff, Nat.reduceLT, Tryz.func12, Tryz.f12, Aa12, An12, e_spec_DrawIsHouse]
  try simp only [spec_DrawFormatHouse, eY]
  all_goals rfl
theorem e_impl_FormatNumbers_l3 (a2 a3) {R1 o R2 a} [H1 : EncL c_s R1 o] [H2 : EncL c_i64 R2 a] : LP T (n + 3) 13 3 (frm [(3, .sl 0), (7, .imm 1 R2), (8, .i .i64 a2), (9, .i .i64 a3)]) [some (Ent.lst 1 R1)] =
    (run (impl_FormatNumbers_l3 a a2) (o, a3)).map (fun (zr : (List (List UInt8))) => (XE.exit 0, frm [(3, .sl 0)], [some (Ent.lst 1 (zr.map c_s))])) := by
  rcases H1, H2 with ⟨⟨rfl⟩, ⟨rfl⟩⟩
  rw [LP_eq]
  simp -dsimp only [↓evA, evB, lpG_eq, Tryz.func13, Tryz.f13, Aa13, An13, TP, TZ, Nat.reduceAdd, Nat.reduceMul, Nat.reduceBEq, Nat.reduceLeDiff, Nat.reduceLT]
  apply run_map2 o a3
  intro o a3
  simp -dsimp +contextual only [↓evA, eZ, Nat.reduceAdd, Nat.reduceMul, Nat.reduceBEq, Nat.reduceLeDiff, Nat.reduceLT, e_impl_FormatInt]
  try simp only [impl_FormatNumbers_l3, eY]
  all_goals rfl
theorem e_impl_FormatNumbers {R1 l} [H1 : EncL c_i64 R1 l] : CP T (n + 4) 13 [.imm 1 R1] = (impl_FormatNumbers l).map fun r => .s r := by
  obtain ⟨rfl⟩ := H1
  rw [CP_eq]
  simp -dsimp +contextual only [↓evA, eZ, Nat.reduceAdd, Nat.reduceMul, Nat.reduceBEq, Nat.reduceLeDiff, Nat.reduceLT, Tryz.func13, Tryz.f13, Aa13, An13, e_impl_joined, e_impl_FormatNumbers_l3]
  try simp only [impl_FormatNumbers, eY]
  all_goals rfl
theorem e_impl_FormatHouse {R1 a} [H1 : EncR cHouse R1 a] : CP T (n + 5) 11 [.agg R1] = (impl_FormatHouse a).map fun r => .s r := by
  obtain ⟨rfl⟩ := H1
  rw [CP_eq]
  simp -dsimp +contextual (maxSteps := 100000000) only [↓evA, eZ, Nat.reduceAdd, Nat.reduceMul, Nat.reduceBEq, Nat.reduceLeDiff, Nat.reduceLT, Tryz.func11, Tryz.f11, Aa11, An11, e_impl_FormatNumbers]
  try simp only [impl_FormatHouse, eY]
  all_goals rfl
theorem e_impl_FormatHits_l3 (a2 a3) {R1 o R2 a} [H1 : EncL c_s R1 o] [H2 : EncL cHit R2 a] : LP T (n + 3) 14 3 (frm [(3, .sl 0), (7, .imm 2 R2), (8, .i .i64 a2), (9, .i .i64 a3)]) [some (Ent.lst 1 R1)] =
    (run (impl_FormatHits_l3 a a2) (o, a3)).map (fun (zr : (List (List UInt8))) => (XE.exit 0, frm [(3, .sl 0)], [some (Ent.lst 1 (zr.map c_s))])) := by
  rcases H1, H2 with ⟨⟨rfl⟩, ⟨rfl⟩⟩
  rw [LP_eq]
  simp -dsimp only [↓evA, evB, lpG_eq, Tryz.func14, Tryz.f14, Aa14, An14, TP, TZ, Nat.reduceAdd, Nat.reduceMul, Nat.reduceBEq, Nat.reduceLeDiff, Nat.reduceLT]
  apply run_map2 o a3
  intro o a3
  simp -dsimp +contextual only [↓evA, eZ, Nat.reduceAdd, Nat.reduceMul, Nat.reduceBEq, Nat.reduceLeDiff, Nat.reduceLT, e_impl_FormatInt]
  try simp only [impl_FormatHits_l3, eY]
  all_goals rfl
theorem e_impl_FormatHits {R1 l} [H1 : EncL cHit R1 l] : CP T (n + 4) 14 [.imm 2 R1] = (impl_FormatHits l).map fun r => .s r := by
  obtain ⟨rfl⟩ := H1
  rw [CP_eq]
  simp -dsimp +contextual only [↓evA, eZ, Nat.reduceAdd, Nat.reduceMul, Nat.reduceBEq, Nat.reduceLeDiff, Nat.reduceLT, Tryz.func14, Tryz.f14, Aa14, An14, e_impl_joined, e_impl_FormatHits_l3]
  try simp only [impl_FormatHits, eY]
  all_goals rfl
theorem e_laws_FnViews_l11 (a2 a3 a4) {R1 c R2 a} [H1 : EncL c_u8 R1 c] [H2 : EncL cClaim R2 a] : LP T (n + 1) 3 11 (frm [(0, .imm 1 R1), (5, .sl 0), (6, .s a2), (7, .i .i64 a3), (8, .i .i64 a4)]) [some (Ent.lst 5 R2)] =
    (run (laws_FnViews_l11 c a a2) (a3, a4)).map (fun (zr : Int) => (XE.exit 0, frm [(0, .imm 1 (c.map c_u8)), (5, .sl 0), (7, .i .i64 zr)], [some (Ent.lst 5 (a.map cClaim))])) := by
  rcases H1, H2 with ⟨⟨rfl⟩, ⟨rfl⟩⟩
  rw [LP_eq]
  simp -dsimp only [↓evA, evB, lpG_eq, Tryz.func3, Tryz.f3, Aa3, An3, TP, TZ, Nat.reduceAdd, Nat.reduceMul, Nat.reduceBEq, Nat.reduceLeDiff, Nat.reduceLT]
  apply run_map2 a3 a4
  intro a3 a4
  simp -dsimp +contextual only [↓evA, eZ, Nat.reduceAdd, Nat.reduceMul, Nat.reduceBEq, Nat.reduceLeDiff, Nat.reduceLT]
  try simp only [laws_FnViews_l11, eY]
  all_goals rfl
theorem e_laws_FnViews_l19 (a2 a4 a5 a6) {R1 c R2 a R3 a3} [H1 : EncL c_u8 R1 c] [H2 : EncL cClaim R2 a] [H3 : EncL cSlot R3 a3] : LP T (n + 1) 3 19 (frm [(0, .imm 1 R1), (5, .sl 0), (7, .i .i64 a2), (9, .sl 1), (10, .s a4), (11, .i .i64 a5), (12, .i .i64 a6)]) [some (Ent.lst 5 R2), some (Ent.lst 3 R3)] =
    (run (laws_FnViews_l19 c a a2 a3 a4) (a5, a6)).map (fun (zr : Int) => (XE.exit 2, frm [(0, .imm 1 (c.map c_u8)), (5, .sl 0), (7, .i .i64 a2), (9, .sl 1), (11, .i .i64 zr)], [some (Ent.lst 5 (a.map cClaim)), some (Ent.lst 3 (a3.map cSlot))])) := by
  rcases H1, H2, H3 with ⟨⟨rfl⟩, ⟨rfl⟩, ⟨rfl⟩⟩
  rw [LP_eq]
  simp -dsimp only [↓evA, evB, lpG_eq, Tryz.func3, Tryz.f3, Aa3, An3, TP, TZ, Nat.reduceAdd, Nat.reduceMul, Nat.reduceBEq, Nat.reduceLeDiff, Nat.reduceLT]
  apply run_map2 a5 a6
  intro a5 a6
  simp -dsimp +contextual only [↓evA, eZ, Nat.reduceAdd, Nat.reduceMul, Nat.reduceBEq, Nat.reduceLeDiff, Nat.reduceLT]
  try simp only [laws_FnViews_l19, eY]
  all_goals rfl
theorem e_laws_FnViews_l26 (a2 a4 a5 a6 a7) {R1 a R2 a3} [H1 : EncL cClaim R1 a] [H2 : EncL cSlot R2 a3] : LP T (n + 1) 3 26 (frm [(5, .sl 0), (7, .i .i64 a2), (9, .sl 1), (11, .i .i64 a4), (13, .s a5), (14, .i .i64 a6), (15, .i .i64 a7)]) [some (Ent.lst 5 R1), some (Ent.lst 3 R2)] =
    (run (laws_FnViews_l26 a a2 a3 a4 a5) (a6, a7)).map (fun (zr : Int) => (XE.exit 4, frm [(5, .sl 0), (7, .i .i64 a2), (9, .sl 1), (11, .i .i64 a4), (14, .i .i64 zr)], [some (Ent.lst 5 (a.map cClaim)), some (Ent.lst 3 (a3.map cSlot))])) := by
  rcases H1, H2 with ⟨⟨rfl⟩, ⟨rfl⟩⟩
  rw [LP_eq]
  simp -dsimp only [↓evA, evB, lpG_eq, Tryz.func3, Tryz.f3, Aa3, An3, TP, TZ, Nat.reduceAdd, Nat.reduceMul, Nat.reduceBEq, Nat.reduceLeDiff, Nat.reduceLT]
  apply run_map2 a6 a7
  intro a6 a7
  simp -dsimp +contextual only [↓evA, eZ, Nat.reduceAdd, Nat.reduceMul, Nat.reduceBEq, Nat.reduceLeDiff, Nat.reduceLT]
  try simp only [laws_FnViews_l26, eY]
  all_goals rfl
theorem e_laws_FnViews {R1 c} [H1 : EncL c_u8 R1 c] : CP T (n + 16) 3 [.imm 1 R1] = (laws_FnViews c).map fun r => .b r := by
  obtain ⟨rfl⟩ := H1
  rw [CP_eq]
  simp -dsimp +contextual only [↓evA, eZ, Nat.reduceAdd, Nat.reduceMul, Nat.reduceBEq, Nat.reduceLeDiff, Nat.reduceLT, Tryz.func3, Tryz.f3, Aa3, An3, e_laws_big, e_spec_DrawFormatCents, e_impl_FormatCents, e_spec_DrawFormatClaims, e_impl_FormatClaims, e_spec_DrawFormatSlots, e_impl_FormatSlots, e_spec_DrawFormatHouse, e_impl_FormatHouse, e_impl_FormatNumbers, e_impl_FormatHits, e_laws_FnViews_l11, e_laws_FnViews_l19, e_laws_FnViews_l26]
  try simp only [laws_FnViews, eY]
  all_goals rfl
end Go.Proofs.YtkbilciipmijjaaGreatDoor
