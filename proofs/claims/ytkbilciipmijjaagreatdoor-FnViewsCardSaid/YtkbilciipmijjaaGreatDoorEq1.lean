/- The functions of the program come to the typed ones. No condition. -/
import Derived.Test.YtkbilciipmijjaaGreatDoorEc
namespace Go.Proofs.YtkbilciipmijjaaGreatDoor
open Go Go.Proofs Go.Proofs.YtkbilciipmijjaaGreatDoor.Am
set_option maxHeartbeats 4000000
set_option linter.unusedVariables false
set_option linter.unusedSimpArgs false
set_option linter.defProp false
set_option maxRecDepth 100000
variable (n : Nat)
theorem e_laws_big {R1 c} [H1 : EncL c_u8 R1 c] : CP T (n + 1) 4 [.imm 1 R1] = (laws_big c).map fun r => .b r := by
  obtain ⟨rfl⟩ := H1
  rw [CP_eq]
  simp -dsimp +contextual only [↓evA, eZ, Nat.reduceAdd, Nat.reduceMul, Nat.reduceBEq, Nat.reduceLeDiff, Nat.reduceLT, Tryz.func4, Tryz.f4, Aa4, An4]
  try simp only [laws_big, eY]
  all_goals rfl
theorem e_spec_l1New_l3 (a i) {R1 c} [H1 : EncL c_u8 R1 c] : LP T (n + 1) 15 3 (frm [(0, .imm 1 R1), (3, .i .i64 a), (4, .i .i64 i)]) [] =
    (run (spec_l1New_l3 c) (a, i)).map (fun (zr : Int) => (XE.exit 0, frm [(0, .imm 1 (c.map c_u8)), (3, .i .i64 zr)], [])) := by
  obtain ⟨rfl⟩ := H1
  rw [LP_eq]
  simp -dsimp only [↓evA, evB, lpG_eq, Tryz.func15, Tryz.f15, Aa15, An15, TP, TZ, Nat.reduceAdd, Nat.reduceMul, Nat.reduceBEq, Nat.reduceLeDiff, Nat.reduceLT]
  apply run_map2 a i
  intro a i
  simp -dsimp +contextual only [↓evA, eZ, Nat.reduceAdd, Nat.reduceMul, Nat.reduceBEq, Nat.reduceLeDiff, Nat.reduceLT]
  try simp only [spec_l1New_l3, eY]
  all_goals rfl
theorem e_spec_l1New {R1 c} [H1 : EncL c_u8 R1 c] : CA T (n + 2) 15 [] [.imm 1 R1] = (spec_l1New c).map fun r => (.ptr 0 0 0, [some (Ent.box (cl1Cur r))]) := by
  obtain ⟨rfl⟩ := H1
  rw [CA_eq]
  simp -dsimp +contextual (maxSteps := 100000000) only [↓evA, eZ, Nat.reduceAdd, Nat.reduceMul, Nat.reduceBEq, Nat.reduceLeDiff, Nat.reduceLT, Tryz.func15, Tryz.f15, Aa15, An15, e_spec_l1New_l3]
  try simp only [spec_l1New, eY]
  all_goals rfl
theorem e_spec_l1Byte {R1 c} [H1 : EncR cl1Cur R1 c] : CA T (n + 1) 30 [some (Ent.box R1)] [.ptr 0 0 0] = (spec_l1Byte c).map fun r => (.i .i64 r.2, [some (Ent.box (cl1Cur r.1))]) := by
  obtain ⟨rfl⟩ := H1
  rw [CA_eq]
  simp -dsimp +contextual (maxSteps := 100000000) only [↓evA, eZ, Nat.reduceAdd, Nat.reduceMul, Nat.reduceBEq, Nat.reduceLeDiff, Nat.reduceLT, Tryz.func30, Tryz.f30, Aa30, An30]
  try simp only [spec_l1Byte, eY]
  all_goals rfl
theorem e_spec_l1Below (a) {R1 c} [H1 : EncR cl1Cur R1 c] : CA T (n + 2) 24 [some (Ent.box R1)] [.ptr 0 0 0, .i .i64 a] = (spec_l1Below c a).map fun r => (.i .i64 r.2, [some (Ent.box (cl1Cur r.1))]) := by
  obtain ⟨rfl⟩ := H1
  rw [CA_eq]
  simp -dsimp +contextual (maxSteps := 100000000) only [↓evA, eZ, Nat.reduceAdd, Nat.reduceMul, Nat.reduceBEq, Nat.reduceLeDiff, Nat.reduceLT, Tryz.func24, Tryz.f24, Aa24, An24, srt, e_spec_l1Byte]
  try simp only [spec_l1Below, eY]
  all_goals rfl
theorem e_spec_l1Int_o1 {R1 c R2 l} [H1 : EncR cl1Cur R1 c] [H2 : EncL c_i64 R2 l] : CA T (n + 3) 16 [some (Ent.box R1), some (Ent.lst 1 R2)] [.ptr 0 0 0, .sl 1] = (spec_l1Int_o1 c l).map fun r => (.i .i64 r.2, [some (Ent.box (cl1Cur r.1)), some (Ent.lst 1 (l.map c_i64))]) := by
  rcases H1, H2 with ⟨⟨rfl⟩, ⟨rfl⟩⟩
  rw [CA_eq]
  simp -dsimp +contextual (maxSteps := 100000000) only [↓evA, eZ, Nat.reduceAdd, Nat.reduceMul, Nat.reduceBEq, Nat.reduceLeDiff, Nat.reduceLT, Tryz.func16, Tryz.f16, Aa16, An16, srt, e_spec_l1Below]
  try simp only [spec_l1Int_o1, eY]
  all_goals rfl
theorem e_spec_l4Raw {R1 c} [H1 : EncR cl1Cur R1 c] : CA T (n + 4) 17 [some (Ent.box R1)] [.ptr 0 0 0] = (spec_l4Raw c).map fun r => (.i .i64 r.2, [some (Ent.box (cl1Cur r.1))]) := by
  obtain ⟨rfl⟩ := H1
  rw [CA_eq]
  simp -dsimp +contextual (maxSteps := 100000000) only [↓evA, eZ, Nat.reduceAdd, Nat.reduceMul, Nat.reduceBEq, Nat.reduceLeDiff, Nat.reduceLT, Tryz.func17, Tryz.f17, Aa17, An17, srt, e_spec_l1Int_o1]
  try simp only [spec_l4Raw, eY]
  all_goals rfl
theorem e_spec_DrawFormatCents {R1 c} [H1 : EncL c_u8 R1 c] : CP T (n + 5) 5 [.imm 1 R1] = (spec_DrawFormatCents c).map fun r => .i .i64 r := by
  obtain ⟨rfl⟩ := H1
  rw [CP_eq]
  simp -dsimp +contextual only [↓evA, eZ, Nat.reduceAdd, Nat.reduceMul, Nat.reduceBEq, Nat.reduceLeDiff, Nat.reduceLT, Tryz.func5, Tryz.f5, Aa5, An5, srt, e_spec_l1New, e_spec_l4Raw, e_spec_l1Int_o1]
  try simp only [spec_DrawFormatCents, eY]
  all_goals rfl
theorem e_impl_InRange (a l a2) : CP T (n + 1) 18 [.i .i64 a, .i .i64 l, .i .i64 a2] = (impl_InRange a l a2).map fun r => .b r := by
  rw [CP_eq]
  simp -dsimp +contextual only [↓evA, eZ, Nat.reduceAdd, Nat.reduceMul, Nat.reduceBEq, Nat.reduceLeDiff, Nat.reduceLT, Tryz.func18, Tryz.f18, Aa18, An18]
  try simp only [impl_InRange, eY]
  all_goals rfl
theorem e_impl_FormatInt (a) : CP T (n + 2) 19 [.i .i64 a] = (impl_FormatInt a).map fun r => .s r := by
  rw [CP_eq]
  simp -dsimp +contextual only [↓evA, eZ, Nat.reduceAdd, Nat.reduceMul, Nat.reduceBEq, Nat.reduceLeDiff, Nat.reduceLT, Tryz.func19, Tryz.f19, Aa19, An19, e_strconv_Itoa]
  try simp only [impl_FormatInt, eY]
  all_goals rfl
theorem e_impl_FormatCents (c) : CP T (n + 3) 6 [.i .i64 c] = (impl_FormatCents c).map fun r => .s r := by
  rw [CP_eq]
  simp -dsimp +contextual only [↓evA, eZ, Nat.reduceAdd, Nat.reduceMul, Nat.reduceBEq, Nat.reduceLeDiff, Nat.reduceLT, Tryz.func6, Tryz.f6, Aa6, An6, e_impl_InRange, e_impl_FormatInt]
  try simp only [impl_FormatCents, eY]
  all_goals rfl
theorem e_spec_l1In (a l m) : CP T (n + 1) 72 [.i .i64 a, .i .i64 l, .i .i64 m] = (spec_l1In a l m).map fun r => .b r := by
  rw [CP_eq]
  simp -dsimp +contextual only [↓evA, eZ, Nat.reduceAdd, Nat.reduceMul, Nat.reduceBEq, Nat.reduceLeDiff, Nat.reduceLT, Tryz.func72, Tryz.f72, Aa72, An72]
  try simp only [spec_l1In, eY]
  all_goals rfl
theorem e_spec_AreClaims_l8 (a a3) {R1 l R2 a2} [H1 : EncL cClaim R1 l] [H2 : EncR cClaim R2 a2] : LP T (n + 1) 63 8 (frm [(0, .imm 5 R1), (3, .i .i64 a), (4, .ptr 0 0 0), (5, .i .i64 a3)]) [some (Ent.box R2)] =
    lmap (run (spec_AreClaims_l8 l a a2) a3) (fun (zr : Bool) => (XE.ret, frm [(2, .b zr)], [])) (fun (zr : Unit) => (XE.exit 2, frm [(0, .imm 5 (l.map cClaim)), (3, .i .i64 a)], [])) := by
  rcases H1, H2 with ⟨⟨rfl⟩, ⟨rfl⟩⟩
  rw [LP_eq]
  simp -dsimp only [↓evA, evB, lpG_eq, Tryz.func63, Tryz.f63, Aa63, An63, TP, TZ, Nat.reduceAdd, Nat.reduceMul, Nat.reduceBEq, Nat.reduceLeDiff, Nat.reduceLT]
  apply run_map1 a3
  intro a3
  simp -dsimp +contextual only [↓evA, eZ, Nat.reduceAdd, Nat.reduceMul, Nat.reduceBEq, Nat.reduceLeDiff, Nat.reduceLT]
  try simp only [spec_AreClaims_l8, eY]
  all_goals rfl
theorem e_spec_AreClaims_l2 (a) {R1 l} [H1 : EncL cClaim R1 l] : LP T (n + 2) 63 2 (frm [(0, .imm 5 R1), (3, .i .i64 a)]) [] =
    lmap (run (spec_AreClaims_l2 l) a) (fun (zr : Bool) => (XE.ret, frm [(2, .b zr)], [])) (fun (zr : Unit) => (XE.exit 0, frm [(0, .imm 5 (l.map cClaim))], [])) := by
  obtain ⟨rfl⟩ := H1
  rw [LP_eq]
  simp -dsimp only [↓evA, evB, lpG_eq, Tryz.func63, Tryz.f63, Aa63, An63, TP, TZ, Nat.reduceAdd, Nat.reduceMul, Nat.reduceBEq, Nat.reduceLeDiff, Nat.reduceLT]
  apply run_map1 a
  intro a
  simp -dsimp +contextual only [↓evA, eZ, Nat.reduceAdd, Nat.reduceMul, Nat.reduceBEq, Nat.reduceLeDiff, Nat.reduceLT, e_spec_l1In, e_spec_AreClaims_l8]
  try simp only [spec_AreClaims_l2, eY]
  all_goals rfl
theorem e_spec_AreClaims {R1 l} [H1 : EncL cClaim R1 l] : CP T (n + 3) 63 [.imm 5 R1] = (spec_AreClaims l).map fun r => .b r := by
  obtain ⟨rfl⟩ := H1
  rw [CP_eq]
  simp -dsimp +contextual only [↓evA, eZ, Nat.reduceAdd, Nat.reduceMul, Nat.reduceBEq, Nat.reduceLeDiff, Nat.reduceLT, Tryz.func63, Tryz.f63, Aa63, An63, e_spec_AreClaims_l2]
  try simp only [spec_AreClaims, eY]
  all_goals rfl
theorem e_spec_AddClaim_l4 (a2 a3 a4) {R1 l R2 a} [H1 : EncL cClaim R1 l] [H2 : EncR cClaim R2 a] : LP T (n + 1) 44 4 (frm [(0, .imm 5 R1), (3, .ptr 0 0 0), (6, .i .i64 a2), (7, .b a3), (8, .i .i64 a4)]) [some (Ent.box R2)] =
    (run (spec_AddClaim_l4 l a) (a2, a3, a4)).map (fun (zr : Int × Bool) => (XE.exit 0, frm [(0, .imm 5 (l.map cClaim)), (3, .ptr 0 0 0), (6, .i .i64 zr.1), (7, .b zr.2)], [some (Ent.box (cClaim a))])) := by
  rcases H1, H2 with ⟨⟨rfl⟩, ⟨rfl⟩⟩
  rw [LP_eq]
  simp -dsimp only [↓evA, evB, lpG_eq, Tryz.func44, Tryz.f44, Aa44, An44, TP, TZ, Nat.reduceAdd, Nat.reduceMul, Nat.reduceBEq, Nat.reduceLeDiff, Nat.reduceLT]
  apply run_map3 a2 a3 a4
  intro a2 a3 a4
  simp -dsimp +contextual only [↓evA, eZ, Nat.reduceAdd, Nat.reduceMul, Nat.reduceBEq, Nat.reduceLeDiff, Nat.reduceLT]
  try simp only [spec_AddClaim_l4, eY]
  try simp only [List.contains_nil, Bool.not_false, Bool.and_true, e_need_t, List.length_append, List.length_cons, List.length_nil, Nat.zero_add, need_comm, oeq_self]
  all_goals rfl
theorem e_spec_AddClaim {R1 l R2 a} [H1 : EncL cClaim R1 l] [H2 : EncR cClaim R2 a] : CP T (n + 4) 44 [.imm 5 R1, .agg R2] = (spec_AddClaim l a).map fun r => .tup [.own 5 (r.1.map cClaim), .b r.2] := by
  rcases H1, H2 with ⟨⟨rfl⟩, ⟨rfl⟩⟩
  rw [CP_eq]
  simp -dsimp +contextual only [↓evA, eZ, Nat.reduceAdd, Nat.reduceMul, Nat.reduceBEq, Nat.reduceLeDiff, Nat.reduceLT, Tryz.func44, Tryz.f44, Aa44, An44, e_spec_AreClaims, e_spec_AddClaim_l4]
  try simp only [spec_AddClaim, eY]
  try simp only [List.contains_nil, Bool.not_false, Bool.and_true, e_need_t, List.length_append, List.length_cons, List.length_nil, Nat.zero_add, need_comm, oeq_self]
  all_goals first | rfl | (simp +contextual only [evN] <;> rfl)
theorem e_spec_FindClaim_l2 (i i2) {R1 l} [H1 : EncL cClaim R1 l] : LP T (n + 1) 64 2 (frm [(0, .imm 5 R1), (1, .i .i64 i), (5, .i .i64 i2)]) [] =
    lmap (run (spec_FindClaim_l2 l i) i2) (fun (zr : Int) => (XE.ret, frm [(4, .i .i64 zr)], [])) (fun (zr : Unit) => (XE.exit 0, frm [], [])) := by
  obtain ⟨rfl⟩ := H1
  rw [LP_eq]
  simp -dsimp only [↓evA, evB, lpG_eq, Tryz.func64, Tryz.f64, Aa64, An64, TP, TZ, Nat.reduceAdd, Nat.reduceMul, Nat.reduceBEq, Nat.reduceLeDiff, Nat.reduceLT]
  apply run_map1 i2
  intro i2
  simp -dsimp +contextual only [↓evA, eZ, Nat.reduceAdd, Nat.reduceMul, Nat.reduceBEq, Nat.reduceLeDiff, Nat.reduceLT]
  try simp only [spec_FindClaim_l2, eY]
  all_goals rfl
theorem e_spec_FindClaim (i) {R1 l} [H1 : EncL cClaim R1 l] : CP T (n + 2) 64 [.imm 5 R1, .i .i64 i] = (spec_FindClaim l i).map fun r => .i .i64 r := by
  obtain ⟨rfl⟩ := H1
  rw [CP_eq]
  simp -dsimp +contextual only [↓evA, eZ, Nat.reduceAdd, Nat.reduceMul, Nat.reduceBEq, Nat.reduceLeDiff, Nat.reduceLT, Tryz.func64, Tryz.f64, Aa64, An64, e_spec_FindClaim_l2]
  try simp only [spec_FindClaim, eY]
  all_goals rfl
theorem e_spec_SetState (a a2) {R1 l} [H1 : EncL cClaim R1 l] : CP T (n + 4) 45 [.imm 5 R1, .i .i64 a, .i .i64 a2] = (spec_SetState l a a2).map fun r => .tup [.own 5 (r.1.map cClaim), .b r.2] := by
  obtain ⟨rfl⟩ := H1
  rw [CP_eq]
  simp -dsimp +contextual only [↓evA, eZ, Nat.reduceAdd, Nat.reduceMul, Nat.reduceBEq, Nat.reduceLeDiff, Nat.reduceLT, Tryz.func45, Tryz.f45, Aa45, An45, e_spec_FindClaim, e_spec_AreClaims]
  try simp only [spec_SetState, eY]
  all_goals first | rfl | (simp +contextual only [evN] <;> rfl)
theorem e_spec_l13Draw_l3 (i) {R1 c R2 l} [H1 : EncR cl1Cur R1 c] [H2 : EncL cClaim R2 l] : LP T (n + 5) 32 3 (frm [(0, .ptr 0 0 0), (3, .sl 1), (4, .i .i64 i)]) [some (Ent.box R1), some (Ent.lst 5 R2)] =
    (run spec_l13Draw_l3 (c, l, i)).map (fun (zr : l1Cur × (List Claim)) => (XE.exit 0, frm [(0, .ptr 0 0 0), (3, .sl 1)], [some (Ent.box (cl1Cur zr.1)), some (Ent.lst 5 (zr.2.map cClaim))])) := by
  rcases H1, H2 with ⟨⟨rfl⟩, ⟨rfl⟩⟩
  rw [LP_eq]
  simp -dsimp only [↓evA, evB, lpG_eq, Tryz.func32, Tryz.f32, Aa32, An32, TP, TZ, Nat.reduceAdd, Nat.reduceMul, Nat.reduceBEq, Nat.reduceLeDiff, Nat.reduceLT]
  apply run_map3 c l i
  intro c l i
  simp -dsimp +contextual only [↓evA, eZ, Nat.reduceAdd, Nat.reduceMul, Nat.reduceBEq, Nat.reduceLeDiff, Nat.reduceLT, srt, e_spec_l1Below, e_spec_AddClaim, e_spec_SetState]
  try simp only [spec_l13Draw_l3, eY]
  all_goals rfl
theorem e_spec_l13Draw {R1 c} [H1 : EncR cl1Cur R1 c] : CA T (n + 6) 32 [some (Ent.box R1)] [.ptr 0 0 0] = (spec_l13Draw c).map fun r => (.sl 1, [some (Ent.box (cl1Cur r.1)), some (Ent.lst 5 (r.2.map cClaim))]) := by
  obtain ⟨rfl⟩ := H1
  rw [CA_eq]
  simp -dsimp +contextual (maxSteps := 100000000) only [↓evA, eZ, Nat.reduceAdd, Nat.reduceMul, Nat.reduceBEq, Nat.reduceLeDiff, Nat.reduceLT, Tryz.func32, Tryz.f32, Aa32, An32, srt, e_spec_l13Draw_l3]
  try simp only [spec_l13Draw, eY]
  all_goals rfl
theorem e_spec_l13Any {R1 c} [H1 : EncR cl1Cur R1 c] : CA T (n + 7) 26 [some (Ent.box R1)] [.ptr 0 0 0] = (spec_l13Any c).map fun r => (.sl 1, [some (Ent.box (cl1Cur r.1)), some (Ent.lst 5 (r.2.map cClaim))]) := by
  obtain ⟨rfl⟩ := H1
  rw [CA_eq]
  simp -dsimp +contextual (maxSteps := 100000000) only [↓evA, eZ, Nat.reduceAdd, Nat.reduceMul, Nat.reduceBEq, Nat.reduceLeDiff, Nat.reduceLT, Tryz.func26, Tryz.f26, Aa26, An26, srt, e_spec_l13Draw, e_spec_l1Below, e_spec_l1Int_o1, e_spec_l4Raw]
  try simp only [spec_l13Any, eY]
  all_goals rfl
theorem e_spec_DrawAreClaims {R1 c} [H1 : EncL c_u8 R1 c] : CP T (n + 8) 20 [.imm 1 R1] = (spec_DrawAreClaims c).map fun r => .own 5 (r.map cClaim) := by
  obtain ⟨rfl⟩ := H1
  rw [CP_eq]
  simp -dsimp +contextual only [↓evA, eZ, Nat.reduceAdd, Nat.reduceMul, Nat.reduceBEq, Nat.reduceLeDiff, Nat.reduceLT, Tryz.func20, Tryz.f20, Aa20, An20, srt, e_spec_l1New, e_spec_l13Any]
  try simp only [spec_DrawAreClaims, eY]
  all_goals first | rfl | (simp +contextual only [evN] <;> rfl)
theorem e_spec_DrawFormatClaims {R1 c} [H1 : EncL c_u8 R1 c] : CP T (n + 9) 7 [.imm 1 R1] = (spec_DrawFormatClaims c).map fun r => .own 5 (r.map cClaim) := by
  obtain ⟨rfl⟩ := H1
  rw [CP_eq]
  simp -dsimp +contextual only [↓evA, eZ, Nat.reduceAdd, Nat.reduceMul, Nat.reduceBEq, Nat.reduceLeDiff, Nat.reduceLT, Tryz.func7, Tryz.f7, Aa7, An7, e_spec_DrawAreClaims]
  try simp only [spec_DrawFormatClaims, eY]
  all_goals first | rfl | (simp +contextual only [evN] <;> rfl)
theorem e_impl_joined {R1 l} [H1 : EncL c_s R1 l] : CP T (n + 2) 21 [.imm 1 R1] = (impl_joined l).map fun r => .s r := by
  obtain ⟨rfl⟩ := H1
  rw [CP_eq]
  simp -dsimp +contextual only [↓evA, eZ, Nat.reduceAdd, Nat.reduceMul, Nat.reduceBEq, Nat.reduceLeDiff, Nat.reduceLT, Tryz.func21, Tryz.f21, Aa21, An21, e_strings_Join]
  try simp only [impl_joined, eY]
  all_goals rfl
theorem e_impl_FormatClaims_l3 (a2 a3) {R1 o R2 a} [H1 : EncL c_s R1 o] [H2 : EncL cClaim R2 a] : LP T (n + 3) 8 3 (frm [(3, .sl 0), (8, .imm 5 R2), (9, .i .i64 a2), (10, .i .i64 a3)]) [some (Ent.lst 1 R1)] =
    (run (impl_FormatClaims_l3 a a2) (o, a3)).map (fun (zr : (List (List UInt8))) => (XE.exit 0, frm [(3, .sl 0)], [some (Ent.lst 1 (zr.map c_s))])) := by
  rcases H1, H2 with ⟨⟨rfl⟩, ⟨rfl⟩⟩
  rw [LP_eq]
  simp -dsimp only [↓evA, evB, lpG_eq, Tryz.func8, Tryz.f8, Aa8, An8, TP, TZ, Nat.reduceAdd, Nat.reduceMul, Nat.reduceBEq, Nat.reduceLeDiff, Nat.reduceLT]
  apply run_map2 o a3
  intro o a3
  simp -dsimp +contextual only [↓evA, eZ, Nat.reduceAdd, Nat.reduceMul, Nat.reduceBEq, Nat.reduceLeDiff, Nat.reduceLT, e_impl_InRange, e_impl_FormatInt]
  try simp only [impl_FormatClaims_l3, eY]
  all_goals rfl
theorem e_impl_FormatClaims {R1 l} [H1 : EncL cClaim R1 l] : CP T (n + 4) 8 [.imm 5 R1] = (impl_FormatClaims l).map fun r => .s r := by
  obtain ⟨rfl⟩ := H1
  rw [CP_eq]
  simp -dsimp +contextual only [↓evA, eZ, Nat.reduceAdd, Nat.reduceMul, Nat.reduceBEq, Nat.reduceLeDiff, Nat.reduceLT, Tryz.func8, Tryz.f8, Aa8, An8, e_impl_joined, e_impl_FormatClaims_l3]
  try simp only [impl_FormatClaims, eY]
  all_goals rfl
theorem e_spec_l4Draw (i) {R1 c} [H1 : EncR cl1Cur R1 c] : CA T (n + 3) 49 [some (Ent.box R1)] [.ptr 0 0 0, .i .i64 i] = (spec_l4Draw c i).map fun r => (.agg (cThing r.2), [some (Ent.box (cl1Cur r.1))]) := by
  obtain ⟨rfl⟩ := H1
  rw [CA_eq]
  simp -dsimp +contextual (maxSteps := 100000000) only [↓evA, eZ, Nat.reduceAdd, Nat.reduceMul, Nat.reduceBEq, Nat.reduceLeDiff, Nat.reduceLT, Tryz.func49, Tryz.f49, Aa49, An49, srt, e_spec_l1Below]
  try simp only [spec_l4Draw, eY]
  all_goals rfl
theorem e_spec_SmallestFree_l3 (s k i) {R1 l} [H1 : EncL cSlot R1 l] : LP T (n + 1) 67 3 (frm [(0, .imm 3 R1), (1, .i .i64 s), (5, .i .i64 k), (6, .i .i64 i)]) [] =
    (run (spec_SmallestFree_l3 l s) (k, i)).map (fun (zr : Int) => (XE.exit 0, frm [(0, .imm 3 (l.map cSlot)), (5, .i .i64 zr)], [])) := by
  obtain ⟨rfl⟩ := H1
  rw [LP_eq]
  simp -dsimp only [↓evA, evB, lpG_eq, Tryz.func67, Tryz.f67, Aa67, An67, TP, TZ, Nat.reduceAdd, Nat.reduceMul, Nat.reduceBEq, Nat.reduceLeDiff, Nat.reduceLT]
  apply run_map2 k i
  intro k i
  simp -dsimp +contextual only [↓evA, eZ, Nat.reduceAdd, Nat.reduceMul, Nat.reduceBEq, Nat.reduceLeDiff, Nat.reduceLT]
  try simp only [spec_SmallestFree_l3, eY]
  all_goals rfl
theorem e_spec_SmallestFree (s) {R1 l} [H1 : EncL cSlot R1 l] : CP T (n + 2) 67 [.imm 3 R1, .i .i64 s] = (spec_SmallestFree l s).map fun r => .i .i64 r := by
  obtain ⟨rfl⟩ := H1
  rw [CP_eq]
  simp -dsimp +contextual only [↓evA, eZ, Nat.reduceAdd, Nat.reduceMul, Nat.reduceBEq, Nat.reduceLeDiff, Nat.reduceLT, Tryz.func67, Tryz.f67, Aa67, An67, e_spec_SmallestFree_l3]
  try simp only [spec_SmallestFree, eY]
  all_goals rfl
theorem e_spec_AreSlots_l7 (a a2) {R1 l} [H1 : EncL cSlot R1 l] : LP T (n + 1) 68 7 (frm [(0, .imm 3 R1), (3, .i .i64 a), (4, .i .i64 a2)]) [] =
    lmap (run (spec_AreSlots_l7 l a) a2) (fun (zr : Bool) => (XE.ret, frm [(2, .b zr)], [])) (fun (zr : Unit) => (XE.exit 2, frm [(0, .imm 3 (l.map cSlot)), (3, .i .i64 a)], [])) := by
  obtain ⟨rfl⟩ := H1
  rw [LP_eq]
  simp -dsimp only [↓evA, evB, lpG_eq, Tryz.func68, Tryz.f68, Aa68, An68, TP, TZ, Nat.reduceAdd, Nat.reduceMul, Nat.reduceBEq, Nat.reduceLeDiff, Nat.reduceLT]
  apply run_map1 a2
  intro a2
  simp -dsimp +contextual only [↓evA, eZ, Nat.reduceAdd, Nat.reduceMul, Nat.reduceBEq, Nat.reduceLeDiff, Nat.reduceLT]
  try simp only [spec_AreSlots_l7, eY]
  all_goals rfl
theorem e_spec_AreSlots_l2 (a) {R1 l} [H1 : EncL cSlot R1 l] : LP T (n + 2) 68 2 (frm [(0, .imm 3 R1), (3, .i .i64 a)]) [] =
    lmap (run (spec_AreSlots_l2 l) a) (fun (zr : Bool) => (XE.ret, frm [(2, .b zr)], [])) (fun (zr : Unit) => (XE.exit 0, frm [(0, .imm 3 (l.map cSlot))], [])) := by
  obtain ⟨rfl⟩ := H1
  rw [LP_eq]
  simp -dsimp only [↓evA, evB, lpG_eq, Tryz.func68, Tryz.f68, Aa68, An68, TP, TZ, Nat.reduceAdd, Nat.reduceMul, Nat.reduceBEq, Nat.reduceLeDiff, Nat.reduceLT]
  apply run_map1 a
  intro a
  simp -dsimp +contextual only [↓evA, eZ, Nat.reduceAdd, Nat.reduceMul, Nat.reduceBEq, Nat.reduceLeDiff, Nat.reduceLT, e_spec_l1In, e_spec_AreSlots_l7]
  try simp only [spec_AreSlots_l2, eY]
  all_goals rfl
theorem e_spec_AreSlots {R1 l} [H1 : EncL cSlot R1 l] : CP T (n + 3) 68 [.imm 3 R1] = (spec_AreSlots l).map fun r => .b r := by
  obtain ⟨rfl⟩ := H1
  rw [CP_eq]
  simp -dsimp +contextual only [↓evA, eZ, Nat.reduceAdd, Nat.reduceMul, Nat.reduceBEq, Nat.reduceLeDiff, Nat.reduceLT, Tryz.func68, Tryz.f68, Aa68, An68, e_spec_AreSlots_l2]
  try simp only [spec_AreSlots, eY]
  all_goals rfl
theorem e_spec_IsThing {R1 a} [H1 : EncR cThing R1 a] : CP T (n + 2) 69 [.agg R1] = (spec_IsThing a).map fun r => .b r := by
  obtain ⟨rfl⟩ := H1
  rw [CP_eq]
  simp -dsimp +contextual only [↓evA, eZ, Nat.reduceAdd, Nat.reduceMul, Nat.reduceBEq, Nat.reduceLeDiff, Nat.reduceLT, Tryz.func69, Tryz.f69, Aa69, An69, e_spec_l1In]
  try simp only [spec_IsThing, eY]
  all_goals rfl
theorem e_spec_SlotOf_l2 (a i) {R1 l} [H1 : EncL cSlot R1 l] : LP T (n + 1) 70 2 (frm [(0, .imm 3 R1), (1, .i .i64 a), (5, .i .i64 i)]) [] =
    lmap (run (spec_SlotOf_l2 l a) i) (fun (zr : Int) => (XE.ret, frm [(4, .i .i64 zr)], [])) (fun (zr : Unit) => (XE.exit 0, frm [], [])) := by
  obtain ⟨rfl⟩ := H1
  rw [LP_eq]
  simp -dsimp only [↓evA, evB, lpG_eq, Tryz.func70, Tryz.f70, Aa70, An70, TP, TZ, Nat.reduceAdd, Nat.reduceMul, Nat.reduceBEq, Nat.reduceLeDiff, Nat.reduceLT]
  apply run_map1 i
  intro i
  simp -dsimp +contextual only [↓evA, eZ, Nat.reduceAdd, Nat.reduceMul, Nat.reduceBEq, Nat.reduceLeDiff, Nat.reduceLT]
  try simp only [spec_SlotOf_l2, eY]
  all_goals rfl
theorem e_spec_SlotOf (a) {R1 l} [H1 : EncL cSlot R1 l] : CP T (n + 2) 70 [.imm 3 R1, .i .i64 a] = (spec_SlotOf l a).map fun r => .i .i64 r := by
  obtain ⟨rfl⟩ := H1
  rw [CP_eq]
  simp -dsimp +contextual only [↓evA, eZ, Nat.reduceAdd, Nat.reduceMul, Nat.reduceBEq, Nat.reduceLeDiff, Nat.reduceLT, Tryz.func70, Tryz.f70, Aa70, An70, e_spec_SlotOf_l2]
  try simp only [spec_SlotOf, eY]
  all_goals rfl
theorem e_spec_PutAway_l6 (s i) {R1 a R2 o} [H1 : EncR cThing R1 a] [H2 : EncL cSlot R2 o] : LP T (n + 1) 48 6 (frm [(3, .ptr 0 0 0), (6, .sl 1), (7, .i .i64 s), (8, .i .i64 i)]) [some (Ent.box R1), some (Ent.lst 3 R2)] =
    (run (spec_PutAway_l6 a s) (o, i)).map (fun (zr : (List Slot)) => (XE.exit 0, frm [(6, .sl 0)], [some (Ent.lst 3 (zr.map cSlot))])) := by
  rcases H1, H2 with ⟨⟨rfl⟩, ⟨rfl⟩⟩
  rw [LP_eq]
  simp -dsimp only [↓evA, evB, lpG_eq, Tryz.func48, Tryz.f48, Aa48, An48, TP, TZ, Nat.reduceAdd, Nat.reduceMul, Nat.reduceBEq, Nat.reduceLeDiff, Nat.reduceLT]
  apply run_map2 o i
  intro o i
  simp -dsimp +contextual only [↓evA, eZ, Nat.reduceAdd, Nat.reduceMul, Nat.reduceBEq, Nat.reduceLeDiff, Nat.reduceLT]
  try simp only [spec_PutAway_l6, eY]
  all_goals rfl
theorem e_spec_PutAway {R1 l R2 a} [H1 : EncL cSlot R1 l] [H2 : EncR cThing R2 a] : CP T (n + 4) 48 [.imm 3 R1, .agg R2] = (spec_PutAway l a).map fun r => .tup [.own 3 (r.1.map cSlot), .b r.2] := by
  rcases H1, H2 with ⟨⟨rfl⟩, ⟨rfl⟩⟩
  rw [CP_eq]
  simp -dsimp +contextual only [↓evA, eZ, Nat.reduceAdd, Nat.reduceMul, Nat.reduceBEq, Nat.reduceLeDiff, Nat.reduceLT, Tryz.func48, Tryz.f48, Aa48, An48, e_spec_SmallestFree, e_spec_AreSlots, e_spec_IsThing, e_spec_SlotOf, e_spec_PutAway_l6]
  try simp only [spec_PutAway, eY]
  all_goals first | rfl | (simp +contextual only [evN] <;> rfl)
theorem e_spec_l14Draw_l3 (i) {R1 c R2 l} [H1 : EncR cl1Cur R1 c] [H2 : EncL cSlot R2 l] : LP T (n + 3) 36 3 (frm [(0, .ptr 0 0 0), (3, .sl 1), (4, .i .i64 i)]) [some (Ent.box R1), some (Ent.lst 3 R2)] =
    (run spec_l14Draw_l3 (c, l, i)).map (fun (zr : l1Cur × (List Slot)) => (XE.exit 0, frm [(0, .ptr 0 0 0), (3, .sl 1)], [some (Ent.box (cl1Cur zr.1)), some (Ent.lst 3 (zr.2.map cSlot))])) := by
  rcases H1, H2 with ⟨⟨rfl⟩, ⟨rfl⟩⟩
  rw [LP_eq]
  simp -dsimp only [↓evA, evB, lpG_eq, Tryz.func36, Tryz.f36, Aa36, An36, TP, TZ, Nat.reduceAdd, Nat.reduceMul, Nat.reduceBEq, Nat.reduceLeDiff, Nat.reduceLT]
  apply run_map3 c l i
  intro c l i
  simp -dsimp +contextual only [↓evA, eZ, Nat.reduceAdd, Nat.reduceMul, Nat.reduceBEq, Nat.reduceLeDiff, Nat.reduceLT, srt, e_spec_l1Below]
  try simp only [spec_l14Draw_l3, eY]
  all_goals rfl
theorem e_spec_l14Draw_l7 (i) {R1 c R2 l} [H1 : EncR cl1Cur R1 c] [H2 : EncL cSlot R2 l] : LP T (n + 5) 36 7 (frm [(0, .ptr 0 0 0), (3, .sl 1), (5, .i .i64 i)]) [some (Ent.box R1), some (Ent.lst 3 R2)] =
    (run spec_l14Draw_l7 (c, l, i)).map (fun (zr : l1Cur × (List Slot)) => (XE.exit 2, frm [(0, .ptr 0 0 0), (3, .sl 1)], [some (Ent.box (cl1Cur zr.1)), some (Ent.lst 3 (zr.2.map cSlot))])) := by
  rcases H1, H2 with ⟨⟨rfl⟩, ⟨rfl⟩⟩
  rw [LP_eq]
  simp -dsimp only [↓evA, evB, lpG_eq, Tryz.func36, Tryz.f36, Aa36, An36, TP, TZ, Nat.reduceAdd, Nat.reduceMul, Nat.reduceBEq, Nat.reduceLeDiff, Nat.reduceLT]
  apply run_map3 c l i
  intro c l i
  simp -dsimp +contextual only [↓evA, eZ, Nat.reduceAdd, Nat.reduceMul, Nat.reduceBEq, Nat.reduceLeDiff, Nat.reduceLT, srt, e_spec_l1Below, e_spec_l4Draw, e_spec_PutAway]
  try simp only [spec_l14Draw_l7, eY]
  all_goals rfl
theorem e_spec_l14Draw {R1 c} [H1 : EncR cl1Cur R1 c] : CA T (n + 6) 36 [some (Ent.box R1)] [.ptr 0 0 0] = (spec_l14Draw c).map fun r => (.sl 1, [some (Ent.box (cl1Cur r.1)), some (Ent.lst 3 (r.2.map cSlot))]) := by
  obtain ⟨rfl⟩ := H1
  rw [CA_eq]
  simp -dsimp +contextual (maxSteps := 100000000) only [↓evA, eZ, Nat.reduceAdd, Nat.reduceMul, Nat.reduceBEq, Nat.reduceLeDiff, Nat.reduceLT, Tryz.func36, Tryz.f36, Aa36, An36, srt, e_spec_l1Below, e_spec_l14Draw_l3, e_spec_l14Draw_l7]
  try simp only [spec_l14Draw, eY]
  all_goals rfl
theorem e_spec_l14Any {R1 c} [H1 : EncR cl1Cur R1 c] : CA T (n + 7) 28 [some (Ent.box R1)] [.ptr 0 0 0] = (spec_l14Any c).map fun r => (.sl 1, [some (Ent.box (cl1Cur r.1)), some (Ent.lst 3 (r.2.map cSlot))]) := by
  obtain ⟨rfl⟩ := H1
  rw [CA_eq]
  simp -dsimp +contextual (maxSteps := 100000000) only [↓evA, eZ, Nat.reduceAdd, Nat.reduceMul, Nat.reduceBEq, Nat.reduceLeDiff, Nat.reduceLT, Tryz.func28, Tryz.f28, Aa28, An28, srt, e_spec_l14Draw, e_spec_l1Below, e_spec_l1Int_o1, e_spec_l4Raw]
  try simp only [spec_l14Any, eY]
  all_goals rfl
theorem e_spec_DrawAreSlots {R1 c} [H1 : EncL c_u8 R1 c] : CP T (n + 8) 22 [.imm 1 R1] = (spec_DrawAreSlots c).map fun r => .own 3 (r.map cSlot) := by
  obtain ⟨rfl⟩ := H1
  rw [CP_eq]
  simp -dsimp +contextual only [↓evA, eZ, Nat.reduceAdd, Nat.reduceMul, Nat.reduceBEq, Nat.reduceLeDiff, Nat.reduceLT, Tryz.func22, Tryz.f22, Aa22, An22, srt, e_spec_l1New, e_spec_l14Any]
  try simp only [spec_DrawAreSlots, eY]
  all_goals first | rfl | (simp +contextual only [evN] <;> rfl)
theorem e_spec_DrawFormatSlots {R1 c} [H1 : EncL c_u8 R1 c] : CP T (n + 9) 9 [.imm 1 R1] = (spec_DrawFormatSlots c).map fun r => .own 3 (r.map cSlot) := by
  obtain ⟨rfl⟩ := H1
  rw [CP_eq]
  simp -dsimp +contextual only [↓evA, eZ, Nat.reduceAdd, Nat.reduceMul, Nat.reduceBEq, Nat.reduceLeDiff, Nat.reduceLT, Tryz.func9, Tryz.f9, Aa9, An9, e_spec_DrawAreSlots]
  try simp only [spec_DrawFormatSlots, eY]
  all_goals first | rfl | (simp +contextual only [evN] <;> rfl)
theorem e_impl_FormatSlots_l3 (a2 a3) {R1 o R2 a} [H1 : EncL c_s R1 o] [H2 : EncL cSlot R2 a] : LP T (n + 3) 10 3 (frm [(3, .sl 0), (8, .imm 3 R2), (9, .i .i64 a2), (10, .i .i64 a3)]) [some (Ent.lst 1 R1)] =
    (run (impl_FormatSlots_l3 a a2) (o, a3)).map (fun (zr : (List (List UInt8))) => (XE.exit 0, frm [(3, .sl 0)], [some (Ent.lst 1 (zr.map c_s))])) := by
  rcases H1, H2 with ⟨⟨rfl⟩, ⟨rfl⟩⟩
  rw [LP_eq]
  simp -dsimp only [↓evA, evB, lpG_eq, Tryz.func10, Tryz.f10, Aa10, An10, TP, TZ, Nat.reduceAdd, Nat.reduceMul, Nat.reduceBEq, Nat.reduceLeDiff, Nat.reduceLT]
  apply run_map2 o a3
  intro o a3
  simp -dsimp +contextual only [↓evA, eZ, Nat.reduceAdd, Nat.reduceMul, Nat.reduceBEq, Nat.reduceLeDiff, Nat.reduceLT, e_impl_FormatInt]
  try simp only [impl_FormatSlots_l3, eY]
  all_goals rfl
theorem e_impl_FormatSlots {R1 l} [H1 : EncL cSlot R1 l] : CP T (n + 4) 10 [.imm 3 R1] = (impl_FormatSlots l).map fun r => .s r := by
  obtain ⟨rfl⟩ := H1
  rw [CP_eq]
  simp -dsimp +contextual only [↓evA, eZ, Nat.reduceAdd, Nat.reduceMul, Nat.reduceBEq, Nat.reduceLeDiff, Nat.reduceLT, Tryz.func10, Tryz.f10, Aa10, An10, e_impl_joined, e_impl_FormatSlots_l3]
  try simp only [impl_FormatSlots, eY]
  all_goals rfl
theorem e_spec_l33Slots_l3 (i) {R1 c R2 l} [H1 : EncR cl1Cur R1 c] [H2 : EncL cSlot R2 l] : LP T (n + 3) 38 3 (frm [(0, .ptr 0 0 0), (3, .sl 1), (4, .i .i64 i)]) [some (Ent.box R1), some (Ent.lst 3 R2)] =
    (run spec_l33Slots_l3 (c, l, i)).map (fun (zr : l1Cur × (List Slot)) => (XE.exit 0, frm [(0, .ptr 0 0 0), (3, .sl 1)], [some (Ent.box (cl1Cur zr.1)), some (Ent.lst 3 (zr.2.map cSlot))])) := by
  rcases H1, H2 with ⟨⟨rfl⟩, ⟨rfl⟩⟩
  rw [LP_eq]
  simp -dsimp only [↓evA, evB, lpG_eq, Tryz.func38, Tryz.f38, Aa38, An38, TP, TZ, Nat.reduceAdd, Nat.reduceMul, Nat.reduceBEq, Nat.reduceLeDiff, Nat.reduceLT]
  apply run_map3 c l i
  intro c l i
  simp -dsimp +contextual only [↓evA, eZ, Nat.reduceAdd, Nat.reduceMul, Nat.reduceBEq, Nat.reduceLeDiff, Nat.reduceLT, srt, e_spec_l1Below]
  try simp only [spec_l33Slots_l3, eY]
  all_goals rfl
theorem e_spec_l33Slots {R1 c} [H1 : EncR cl1Cur R1 c] : CA T (n + 4) 38 [some (Ent.box R1)] [.ptr 0 0 0] = (spec_l33Slots c).map fun r => (.sl 1, [some (Ent.box (cl1Cur r.1)), some (Ent.lst 3 (r.2.map cSlot))]) := by
  obtain ⟨rfl⟩ := H1
  rw [CA_eq]
  simp -dsimp +contextual (maxSteps := 100000000) only [↓evA, eZ, Nat.reduceAdd, Nat.reduceMul, Nat.reduceBEq, Nat.reduceLeDiff, Nat.reduceLT, Tryz.func38, Tryz.f38, Aa38, An38, srt, e_spec_l33Slots_l3]
  try simp only [spec_l33Slots, eY]
  all_goals rfl
theorem e_spec_l31Copy_l3 (i) {R1 l R2 o} [H1 : EncL cSecret R1 l] [H2 : EncL cSecretO R2 o] : LP T (n + 1) 71 3 (frm [(0, .imm 3 R1), (3, .sl 0), (4, .i .i64 i)]) [some (Ent.lst 3 R2)] =
    (run (spec_l31Copy_l3 l) (o, i)).map (fun (zr : (List Secret)) => (XE.exit 0, frm [(3, .sl 0)], [some (Ent.lst 3 (zr.map cSecretO))])) := by
  rcases H1, H2 with ⟨⟨rfl⟩, ⟨rfl⟩⟩
  rw [LP_eq]
  simp -dsimp only [↓evA, evB, lpG_eq, Tryz.func71, Tryz.f71, Aa71, An71, TP, TZ, Nat.reduceAdd, Nat.reduceMul, Nat.reduceBEq, Nat.reduceLeDiff, Nat.reduceLT]
  apply run_map2 o i
  intro o i
  simp -dsimp +contextual only [↓evA, eZ, Nat.reduceAdd, Nat.reduceMul, Nat.reduceBEq, Nat.reduceLeDiff, Nat.reduceLT]
  try simp only [spec_l31Copy_l3, eY]
  all_goals rfl
theorem e_spec_l31Copy {R1 l} [H1 : EncL cSecret R1 l] : CP T (n + 2) 71 [.imm 3 R1] = (spec_l31Copy l).map fun r => .own 3 (r.map cSecretO) := by
  obtain ⟨rfl⟩ := H1
  rw [CP_eq]
  simp -dsimp +contextual only [↓evA, eZ, Nat.reduceAdd, Nat.reduceMul, Nat.reduceBEq, Nat.reduceLeDiff, Nat.reduceLT, Tryz.func71, Tryz.f71, Aa71, An71, e_spec_l31Copy_l3]
  try simp only [spec_l31Copy, eY]
  all_goals first | rfl | (simp +contextual only [evN] <;> rfl)
theorem e_spec_l33Copy {R1 a} [H1 : EncR cHouse R1 a] : CP T (n + 3) 50 [.agg R1] = (spec_l33Copy a).map fun r => .agg (cHouseO r) := by
  obtain ⟨rfl⟩ := H1
  rw [CP_eq]
  simp -dsimp +contextual (maxSteps := 100000000) only [↓evA, eZ, Nat.reduceAdd, Nat.reduceMul, Nat.reduceBEq, Nat.reduceLeDiff, Nat.reduceLT, Tryz.func50, Tryz.f50, Aa50, An50, e_spec_l31Copy]
  try simp only [spec_l33Copy, eY]
  all_goals rfl
theorem e_spec_IsFind {R1 f} [H1 : EncR cFind R1 f] : CP T (n + 3) 88 [.agg R1] = (spec_IsFind f).map fun r => .b r := by
  obtain ⟨rfl⟩ := H1
  rw [CP_eq]
  simp -dsimp +contextual only [↓evA, eZ, Nat.reduceAdd, Nat.reduceMul, Nat.reduceBEq, Nat.reduceLeDiff, Nat.reduceLT, Tryz.func88, Tryz.f88, Aa88, An88, e_spec_IsThing, e_spec_l1In]
  try simp only [spec_IsFind, eY]
  all_goals rfl
theorem e_spec_AreFinds_l2 (i) {R1 l} [H1 : EncL cFind R1 l] : LP T (n + 4) 73 2 (frm [(0, .imm 8 R1), (3, .i .i64 i)]) [] =
    lmap (run (spec_AreFinds_l2 l) i) (fun (zr : Bool) => (XE.ret, frm [(2, .b zr)], [])) (fun (zr : Unit) => (XE.exit 0, frm [(0, .imm 8 (l.map cFind))], [])) := by
  obtain ⟨rfl⟩ := H1
  rw [LP_eq]
  simp -dsimp only [↓evA, evB, lpG_eq, Tryz.func73, Tryz.f73, Aa73, An73, TP, TZ, Nat.reduceAdd, Nat.reduceMul, Nat.reduceBEq, Nat.reduceLeDiff, Nat.reduceLT]
  apply run_map1 i
  intro i
  simp -dsimp +contextual only [↓evA, eZ, Nat.reduceAdd, Nat.reduceMul, Nat.reduceBEq, Nat.reduceLeDiff, Nat.reduceLT, e_spec_IsFind]
  try simp only [spec_AreFinds_l2, eY]
  all_goals rfl
theorem e_spec_AreFinds {R1 l} [H1 : EncL cFind R1 l] : CP T (n + 5) 73 [.imm 8 R1] = (spec_AreFinds l).map fun r => .b r := by
  obtain ⟨rfl⟩ := H1
  rw [CP_eq]
  simp -dsimp +contextual only [↓evA, eZ, Nat.reduceAdd, Nat.reduceMul, Nat.reduceBEq, Nat.reduceLeDiff, Nat.reduceLT, Tryz.func73, Tryz.f73, Aa73, An73, e_spec_AreFinds_l2]
  try simp only [spec_AreFinds, eY]
  all_goals rfl
theorem e_spec_AreMarks_l2 (i) {R1 l} [H1 : EncL cMark R1 l] : LP T (n + 2) 89 2 (frm [(0, .imm 2 R1), (3, .i .i64 i)]) [] =
    lmap (run (spec_AreMarks_l2 l) i) (fun (zr : Bool) => (XE.ret, frm [(2, .b zr)], [])) (fun (zr : Unit) => (XE.exit 0, frm [(0, .imm 2 (l.map cMark))], [])) := by
  obtain ⟨rfl⟩ := H1
  rw [LP_eq]
  simp -dsimp only [↓evA, evB, lpG_eq, Tryz.func89, Tryz.f89, Aa89, An89, TP, TZ, Nat.reduceAdd, Nat.reduceMul, Nat.reduceBEq, Nat.reduceLeDiff, Nat.reduceLT]
  apply run_map1 i
  intro i
  simp -dsimp +contextual only [↓evA, eZ, Nat.reduceAdd, Nat.reduceMul, Nat.reduceBEq, Nat.reduceLeDiff, Nat.reduceLT, e_spec_l1In]
  try simp only [spec_AreMarks_l2, eY]
  all_goals rfl
theorem e_spec_AreMarks {R1 l} [H1 : EncL cMark R1 l] : CP T (n + 3) 89 [.imm 2 R1] = (spec_AreMarks l).map fun r => .b r := by
  obtain ⟨rfl⟩ := H1
  rw [CP_eq]
  simp -dsimp +contextual only [↓evA, eZ, Nat.reduceAdd, Nat.reduceMul, Nat.reduceBEq, Nat.reduceLeDiff, Nat.reduceLT, Tryz.func89, Tryz.f89, Aa89, An89, e_spec_AreMarks_l2]
  try simp only [spec_AreMarks, eY]
  all_goals rfl
theorem e_spec_AreSecrets_l2 (a) {R1 l} [H1 : EncL cSecret R1 l] : LP T (n + 4) 74 2 (frm [(0, .imm 3 R1), (3, .i .i64 a)]) [] =
    lmap (run (spec_AreSecrets_l2 l) a) (fun (zr : Bool) => (XE.ret, frm [(2, .b zr)], [])) (fun (zr : Unit) => (XE.exit 0, frm [(0, .imm 3 (l.map cSecret))], [])) := by
  obtain ⟨rfl⟩ := H1
  rw [LP_eq]
  simp -dsimp only [↓evA, evB, lpG_eq, Tryz.func74, Tryz.f74, Aa74, An74, TP, TZ, Nat.reduceAdd, Nat.reduceMul, Nat.reduceBEq, Nat.reduceLeDiff, Nat.reduceLT]
  apply run_map1 a
  intro a
  simp -dsimp +contextual only [↓evA, eZ, Nat.reduceAdd, Nat.reduceMul, Nat.reduceBEq, Nat.reduceLeDiff, Nat.reduceLT, e_spec_l1In, e_spec_AreMarks]
  try simp only [spec_AreSecrets_l2, eY]
  all_goals rfl
theorem e_spec_AreSecrets {R1 l} [H1 : EncL cSecret R1 l] : CP T (n + 5) 74 [.imm 3 R1] = (spec_AreSecrets l).map fun r => .b r := by
  obtain ⟨rfl⟩ := H1
  rw [CP_eq]
  simp -dsimp +contextual only [↓evA, eZ, Nat.reduceAdd, Nat.reduceMul, Nat.reduceBEq, Nat.reduceLeDiff, Nat.reduceLT, Tryz.func74, Tryz.f74, Aa74, An74, e_spec_AreSecrets_l2]
  try simp only [spec_AreSecrets, eY]
  all_goals rfl
theorem e_spec_Mod (a m) : CP T (n + 2) 105 [.i .i64 a, .i .i64 m] = (spec_Mod a m).map fun r => .i .i64 r := by
  rw [CP_eq]
  simp -dsimp +contextual only [↓evA, eZ, Nat.reduceAdd, Nat.reduceMul, Nat.reduceBEq, Nat.reduceLeDiff, Nat.reduceLT, Tryz.func105, Tryz.f105, Aa105, An105, e_spec_l1In]
  try simp only [spec_Mod, eY]
  all_goals rfl
theorem e_spec_Hash_l3 (d i) {R1 l} [H1 : EncL c_i64 R1 l] : LP T (n + 3) 101 3 (frm [(0, .imm 1 R1), (3, .i .i64 d), (4, .i .i64 i)]) [] =
    (run (spec_Hash_l3 l) (d, i)).map (fun (zr : Int) => (XE.exit 0, frm [(3, .i .i64 zr)], [])) := by
  obtain ⟨rfl⟩ := H1
  rw [LP_eq]
  simp -dsimp only [↓evA, evB, lpG_eq, Tryz.func101, Tryz.f101, Aa101, An101, TP, TZ, Nat.reduceAdd, Nat.reduceMul, Nat.reduceBEq, Nat.reduceLeDiff, Nat.reduceLT]
  apply run_map2 d i
  intro d i
  simp -dsimp +contextual only [↓evA, eZ, Nat.reduceAdd, Nat.reduceMul, Nat.reduceBEq, Nat.reduceLeDiff, Nat.reduceLT, e_spec_Mod]
  try simp only [spec_Hash_l3, eY]
  all_goals rfl
theorem e_spec_Hash {R1 l} [H1 : EncL c_i64 R1 l] : CP T (n + 4) 101 [.imm 1 R1] = (spec_Hash l).map fun r => .i .i64 r := by
  obtain ⟨rfl⟩ := H1
  rw [CP_eq]
  simp -dsimp +contextual only [↓evA, eZ, Nat.reduceAdd, Nat.reduceMul, Nat.reduceBEq, Nat.reduceLeDiff, Nat.reduceLT, Tryz.func101, Tryz.f101, Aa101, An101, e_spec_Hash_l3]
  try simp only [spec_Hash, eY]
  all_goals rfl
theorem e_spec_HandSeal (b) {R1 a} [H1 : EncR cHand R1 a] : CP T (n + 5) 90 [.i .i64 b, .agg R1] = (spec_HandSeal b a).map fun r => .i .i64 r := by
  obtain ⟨rfl⟩ := H1
  rw [CP_eq]
  simp -dsimp +contextual only [↓evA, eZ, Nat.reduceAdd, Nat.reduceMul, Nat.reduceBEq, Nat.reduceLeDiff, Nat.reduceLT, Tryz.func90, Tryz.f90, Aa90, An90, e_spec_Hash]
  try simp only [spec_HandSeal, eY]
  all_goals rfl
theorem e_spec_l16Last_l3 (a b k i) {R1 l} [H1 : EncL cHand R1 l] : LP T (n + 1) 91 3 (frm [(0, .imm 5 R1), (1, .i .i64 a), (2, .i .i64 b), (7, .i .i64 k), (8, .i .i64 i)]) [] =
    (run (spec_l16Last_l3 l a b) (k, i)).map (fun (zr : Int) => (XE.exit 0, frm [(7, .i .i64 zr)], [])) := by
  obtain ⟨rfl⟩ := H1
  rw [LP_eq]
  simp -dsimp only [↓evA, evB, lpG_eq, Tryz.func91, Tryz.f91, Aa91, An91, TP, TZ, Nat.reduceAdd, Nat.reduceMul, Nat.reduceBEq, Nat.reduceLeDiff, Nat.reduceLT]
  apply run_map2 k i
  intro k i
  simp -dsimp +contextual only [↓evA, eZ, Nat.reduceAdd, Nat.reduceMul, Nat.reduceBEq, Nat.reduceLeDiff, Nat.reduceLT]
  try simp only [spec_l16Last_l3, eY]
  all_goals rfl
theorem e_spec_l16Last (a b) {R1 l} [H1 : EncL cHand R1 l] : CP T (n + 2) 91 [.imm 5 R1, .i .i64 a, .i .i64 b] = (spec_l16Last l a b).map fun r => .i .i64 r := by
  obtain ⟨rfl⟩ := H1
  rw [CP_eq]
  simp -dsimp +contextual only [↓evA, eZ, Nat.reduceAdd, Nat.reduceMul, Nat.reduceBEq, Nat.reduceLeDiff, Nat.reduceLT, Tryz.func91, Tryz.f91, Aa91, An91, e_spec_l16Last_l3]
  try simp only [spec_l16Last, eY]
  all_goals rfl
theorem e_spec_IsChain_l3 (a a2) {R1 l} [H1 : EncL cHand R1 l] : LP T (n + 6) 75 3 (frm [(0, .imm 5 R1), (3, .i .i64 a), (4, .i .i64 a2)]) [] =
    lmap (run (spec_IsChain_l3 l) (a, a2)) (fun (zr : Bool) => (XE.ret, frm [(2, .b zr)], [])) (fun (zr : Unit) => (XE.exit 0, frm [(0, .imm 5 (l.map cHand))], [])) := by
  obtain ⟨rfl⟩ := H1
  rw [LP_eq]
  simp -dsimp only [↓evA, evB, lpG_eq, Tryz.func75, Tryz.f75, Aa75, An75, TP, TZ, Nat.reduceAdd, Nat.reduceMul, Nat.reduceBEq, Nat.reduceLeDiff, Nat.reduceLT]
  apply run_map2 a a2
  intro a a2
  simp -dsimp +contextual only [↓evA, eZ, Nat.reduceAdd, Nat.reduceMul, Nat.reduceBEq, Nat.reduceLeDiff, Nat.reduceLT, e_spec_HandSeal, e_spec_l1In, e_spec_l16Last]
  try simp only [spec_IsChain_l3, eY]
  all_goals rfl
theorem e_spec_IsChain {R1 l} [H1 : EncL cHand R1 l] : CP T (n + 7) 75 [.imm 5 R1] = (spec_IsChain l).map fun r => .b r := by
  obtain ⟨rfl⟩ := H1
  rw [CP_eq]
  simp -dsimp +contextual only [↓evA, eZ, Nat.reduceAdd, Nat.reduceMul, Nat.reduceBEq, Nat.reduceLeDiff, Nat.reduceLT, Tryz.func75, Tryz.f75, Aa75, An75, e_spec_IsChain_l3]
  try simp only [spec_IsChain, eY]
  all_goals rfl
theorem e_spec_AreEntries_l2 (i) {R1 l} [H1 : EncL cEntry R1 l] : LP T (n + 2) 76 2 (frm [(0, .imm 4 R1), (3, .i .i64 i)]) [] =
    lmap (run (spec_AreEntries_l2 l) i) (fun (zr : Bool) => (XE.ret, frm [(2, .b zr)], [])) (fun (zr : Unit) => (XE.exit 0, frm [(0, .imm 4 (l.map cEntry))], [])) := by
  obtain ⟨rfl⟩ := H1
  rw [LP_eq]
  simp -dsimp only [↓evA, evB, lpG_eq, Tryz.func76, Tryz.f76, Aa76, An76, TP, TZ, Nat.reduceAdd, Nat.reduceMul, Nat.reduceBEq, Nat.reduceLeDiff, Nat.reduceLT]
  apply run_map1 i
  intro i
  simp -dsimp +contextual only [↓evA, eZ, Nat.reduceAdd, Nat.reduceMul, Nat.reduceBEq, Nat.reduceLeDiff, Nat.reduceLT, e_spec_l1In]
  try simp only [spec_AreEntries_l2, eY]
  all_goals rfl
theorem e_spec_AreEntries {R1 l} [H1 : EncL cEntry R1 l] : CP T (n + 3) 76 [.imm 4 R1] = (spec_AreEntries l).map fun r => .b r := by
  obtain ⟨rfl⟩ := H1
  rw [CP_eq]
  simp -dsimp +contextual only [↓evA, eZ, Nat.reduceAdd, Nat.reduceMul, Nat.reduceBEq, Nat.reduceLeDiff, Nat.reduceLT, Tryz.func76, Tryz.f76, Aa76, An76, e_spec_AreEntries_l2]
  try simp only [spec_AreEntries, eY]
  all_goals rfl
theorem e_spec_l9Put_l2 (a k) {R1 l} [H1 : EncL c_i64 R1 l] : LP T (n + 1) 102 2 (frm [(0, .imm 1 R1), (1, .i .i64 a), (5, .i .i64 k)]) [] =
    (run (spec_l9Put_l2 l a) k).map (fun (zr : Int) => (XE.exit 0, frm [(0, .imm 1 (l.map c_i64)), (1, .i .i64 a), (5, .i .i64 zr)], [])) := by
  obtain ⟨rfl⟩ := H1
  rw [LP_eq]
  simp -dsimp only [↓evA, evB, lpG_eq, Tryz.func102, Tryz.f102, Aa102, An102, TP, TZ, Nat.reduceAdd, Nat.reduceMul, Nat.reduceBEq, Nat.reduceLeDiff, Nat.reduceLT]
  apply run_map1 k
  intro k
  simp -dsimp +contextual only [↓evA, eZ, Nat.reduceAdd, Nat.reduceMul, Nat.reduceBEq, Nat.reduceLeDiff, Nat.reduceLT]
  try simp only [spec_l9Put_l2, eY]
  try simp only [List.contains_nil, Bool.not_false, Bool.and_true, e_need_t, List.length_append, List.length_cons, List.length_nil, Nat.zero_add, need_comm, oeq_self]
  all_goals rfl
end Go.Proofs.YtkbilciipmijjaaGreatDoor
