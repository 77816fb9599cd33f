/- The functions of the program come to the typed ones. No condition. -/
import Derived.Test.YtidclodlpdccaaaDoorEc
namespace Go.Proofs.YtidclodlpdccaaaDoor
open Go Go.Proofs Go.Proofs.YtidclodlpdccaaaDoor.Am
set_option maxHeartbeats 4000000
set_option linter.unusedVariables false
set_option linter.unusedSimpArgs false
set_option linter.defProp false
set_option maxRecDepth 100000
variable (n : Nat)
theorem e_laws_big {R1 c} [H1 : EncL c_u8 R1 c] : CP T (n + 1) 4 [.imm 1 R1] = (laws_big c).map fun r => .b r := by
  obtain ⟨rfl⟩ := H1
  rw [CP_eq]
  simp -dsimp +contextual only [↓evA, eZ, Nat.reduceAdd, Nat.reduceMul, Nat.reduceBEq, Nat.reduceLeDiff, Nat.reduceLT, Tryd.func4, Tryd.f4, Aa4, An4]
  try simp only [laws_big, eY]
  all_goals rfl
theorem e_spec_l1New_l3 (a i) {R1 c} [H1 : EncL c_u8 R1 c] : LP T (n + 1) 18 3 (frm [(0, .imm 1 R1), (3, .i .i64 a), (4, .i .i64 i)]) [] =
    (run (spec_l1New_l3 c) (a, i)).map (fun (zr : Int) => (XE.exit 0, frm [(0, .imm 1 (c.map c_u8)), (3, .i .i64 zr)], [])) := by
  obtain ⟨rfl⟩ := H1
  rw [LP_eq]
  simp -dsimp only [↓evA, evB, lpG_eq, Tryd.func18, Tryd.f18, Aa18, An18, TP, TZ, Nat.reduceAdd, Nat.reduceMul, Nat.reduceBEq, Nat.reduceLeDiff, Nat.reduceLT]
  apply run_map2 a i
  intro a i
  simp -dsimp +contextual only [↓evA, eZ, Nat.reduceAdd, Nat.reduceMul, Nat.reduceBEq, Nat.reduceLeDiff, Nat.reduceLT]
  try simp only [spec_l1New_l3, eY]
  all_goals rfl
theorem e_spec_l1New {R1 c} [H1 : EncL c_u8 R1 c] : CA T (n + 2) 18 [] [.imm 1 R1] = (spec_l1New c).map fun r => (.ptr 0 0 0, [some (Ent.box (cl1Cur r))]) := by
  obtain ⟨rfl⟩ := H1
  rw [CA_eq]
  simp -dsimp +contextual (maxSteps := 100000000) only [↓evA, eZ, Nat.reduceAdd, Nat.reduceMul, Nat.reduceBEq, Nat.reduceLeDiff, Nat.reduceLT, Tryd.func18, Tryd.f18, Aa18, An18, e_spec_l1New_l3]
  try simp only [spec_l1New, eY]
  all_goals rfl
theorem e_spec_l1Byte {R1 c} [H1 : EncR cl1Cur R1 c] : CA T (n + 1) 29 [some (Ent.box R1)] [.ptr 0 0 0] = (spec_l1Byte c).map fun r => (.i .i64 r.2, [some (Ent.box (cl1Cur r.1))]) := by
  obtain ⟨rfl⟩ := H1
  rw [CA_eq]
  simp -dsimp +contextual (maxSteps := 100000000) only [↓evA, eZ, Nat.reduceAdd, Nat.reduceMul, Nat.reduceBEq, Nat.reduceLeDiff, Nat.reduceLT, Tryd.func29, Tryd.f29, Aa29, An29]
  try simp only [spec_l1Byte, eY]
  all_goals rfl
theorem e_spec_l1Below (a) {R1 c} [H1 : EncR cl1Cur R1 c] : CA T (n + 2) 22 [some (Ent.box R1)] [.ptr 0 0 0, .i .i64 a] = (spec_l1Below c a).map fun r => (.i .i64 r.2, [some (Ent.box (cl1Cur r.1))]) := by
  obtain ⟨rfl⟩ := H1
  rw [CA_eq]
  simp -dsimp +contextual (maxSteps := 100000000) only [↓evA, eZ, Nat.reduceAdd, Nat.reduceMul, Nat.reduceBEq, Nat.reduceLeDiff, Nat.reduceLT, Tryd.func22, Tryd.f22, Aa22, An22, srt, e_spec_l1Byte]
  try simp only [spec_l1Below, eY]
  all_goals rfl
theorem e_spec_l1Int_o1 {R1 c R2 l} [H1 : EncR cl1Cur R1 c] [H2 : EncL c_i64 R2 l] : CA T (n + 3) 19 [some (Ent.box R1), some (Ent.lst 1 R2)] [.ptr 0 0 0, .sl 1] = (spec_l1Int_o1 c l).map fun r => (.i .i64 r.2, [some (Ent.box (cl1Cur r.1)), some (Ent.lst 1 (l.map c_i64))]) := by
  rcases H1, H2 with ⟨⟨rfl⟩, ⟨rfl⟩⟩
  rw [CA_eq]
  simp -dsimp +contextual (maxSteps := 100000000) only [↓evA, eZ, Nat.reduceAdd, Nat.reduceMul, Nat.reduceBEq, Nat.reduceLeDiff, Nat.reduceLT, Tryd.func19, Tryd.f19, Aa19, An19, srt, e_spec_l1Below]
  try simp only [spec_l1Int_o1, eY]
  all_goals rfl
theorem e_spec_l16One (a) {R1 c} [H1 : EncR cl1Cur R1 c] : CA T (n + 4) 37 [some (Ent.box R1)] [.ptr 0 0 0, .i .i64 a] = (spec_l16One c a).map fun r => (.agg (cHand r.2), [some (Ent.box (cl1Cur r.1))]) := by
  obtain ⟨rfl⟩ := H1
  rw [CA_eq]
  simp -dsimp +contextual (maxSteps := 100000000) only [↓evA, eZ, Nat.reduceAdd, Nat.reduceMul, Nat.reduceBEq, Nat.reduceLeDiff, Nat.reduceLT, Tryd.func37, Tryd.f37, Aa37, An37, srt, e_spec_l1Below, e_spec_l1Int_o1]
  try simp only [spec_l16One, eY]
  all_goals rfl
theorem e_spec_l1In (a l m) : CP T (n + 1) 50 [.i .i64 a, .i .i64 l, .i .i64 m] = (spec_l1In a l m).map fun r => .b r := by
  rw [CP_eq]
  simp -dsimp +contextual only [↓evA, eZ, Nat.reduceAdd, Nat.reduceMul, Nat.reduceBEq, Nat.reduceLeDiff, Nat.reduceLT, Tryd.func50, Tryd.f50, Aa50, An50]
  try simp only [spec_l1In, eY]
  all_goals rfl
theorem e_spec_Mod (a m) : CP T (n + 2) 57 [.i .i64 a, .i .i64 m] = (spec_Mod a m).map fun r => .i .i64 r := by
  rw [CP_eq]
  simp -dsimp +contextual only [↓evA, eZ, Nat.reduceAdd, Nat.reduceMul, Nat.reduceBEq, Nat.reduceLeDiff, Nat.reduceLT, Tryd.func57, Tryd.f57, Aa57, An57, e_spec_l1In]
  try simp only [spec_Mod, eY]
  all_goals rfl
theorem e_spec_Hash_l3 (d i) {R1 l} [H1 : EncL c_i64 R1 l] : LP T (n + 3) 49 3 (frm [(0, .imm 1 R1), (3, .i .i64 d), (4, .i .i64 i)]) [] =
    (run (spec_Hash_l3 l) (d, i)).map (fun (zr : Int) => (XE.exit 0, frm [(3, .i .i64 zr)], [])) := by
  obtain ⟨rfl⟩ := H1
  rw [LP_eq]
  simp -dsimp only [↓evA, evB, lpG_eq, Tryd.func49, Tryd.f49, Aa49, An49, TP, TZ, Nat.reduceAdd, Nat.reduceMul, Nat.reduceBEq, Nat.reduceLeDiff, Nat.reduceLT]
  apply run_map2 d i
  intro d i
  simp -dsimp +contextual only [↓evA, eZ, Nat.reduceAdd, Nat.reduceMul, Nat.reduceBEq, Nat.reduceLeDiff, Nat.reduceLT, e_spec_Mod]
  try simp only [spec_Hash_l3, eY]
  all_goals rfl
theorem e_spec_Hash {R1 l} [H1 : EncL c_i64 R1 l] : CP T (n + 4) 49 [.imm 1 R1] = (spec_Hash l).map fun r => .i .i64 r := by
  obtain ⟨rfl⟩ := H1
  rw [CP_eq]
  simp -dsimp +contextual only [↓evA, eZ, Nat.reduceAdd, Nat.reduceMul, Nat.reduceBEq, Nat.reduceLeDiff, Nat.reduceLT, Tryd.func49, Tryd.f49, Aa49, An49, e_spec_Hash_l3]
  try simp only [spec_Hash, eY]
  all_goals rfl
theorem e_spec_HandSeal (b) {R1 a} [H1 : EncR cHand R1 a] : CP T (n + 5) 42 [.i .i64 b, .agg R1] = (spec_HandSeal b a).map fun r => .i .i64 r := by
  obtain ⟨rfl⟩ := H1
  rw [CP_eq]
  simp -dsimp +contextual only [↓evA, eZ, Nat.reduceAdd, Nat.reduceMul, Nat.reduceBEq, Nat.reduceLeDiff, Nat.reduceLT, Tryd.func42, Tryd.f42, Aa42, An42, e_spec_Hash]
  try simp only [spec_HandSeal, eY]
  all_goals rfl
theorem e_spec_l16Last_l3 (a b k i) {R1 l} [H1 : EncL cHand R1 l] : LP T (n + 1) 51 3 (frm [(0, .imm 5 R1), (1, .i .i64 a), (2, .i .i64 b), (7, .i .i64 k), (8, .i .i64 i)]) [] =
    (run (spec_l16Last_l3 l a b) (k, i)).map (fun (zr : Int) => (XE.exit 0, frm [(7, .i .i64 zr)], [])) := by
  obtain ⟨rfl⟩ := H1
  rw [LP_eq]
  simp -dsimp only [↓evA, evB, lpG_eq, Tryd.func51, Tryd.f51, Aa51, An51, TP, TZ, Nat.reduceAdd, Nat.reduceMul, Nat.reduceBEq, Nat.reduceLeDiff, Nat.reduceLT]
  apply run_map2 k i
  intro k i
  simp -dsimp +contextual only [↓evA, eZ, Nat.reduceAdd, Nat.reduceMul, Nat.reduceBEq, Nat.reduceLeDiff, Nat.reduceLT]
  try simp only [spec_l16Last_l3, eY]
  all_goals rfl
theorem e_spec_l16Last (a b) {R1 l} [H1 : EncL cHand R1 l] : CP T (n + 2) 51 [.imm 5 R1, .i .i64 a, .i .i64 b] = (spec_l16Last l a b).map fun r => .i .i64 r := by
  obtain ⟨rfl⟩ := H1
  rw [CP_eq]
  simp -dsimp +contextual only [↓evA, eZ, Nat.reduceAdd, Nat.reduceMul, Nat.reduceBEq, Nat.reduceLeDiff, Nat.reduceLT, Tryd.func51, Tryd.f51, Aa51, An51, e_spec_l16Last_l3]
  try simp only [spec_l16Last, eY]
  all_goals rfl
theorem e_spec_IsChain_l3 (a a2) {R1 l} [H1 : EncL cHand R1 l] : LP T (n + 6) 43 3 (frm [(0, .imm 5 R1), (3, .i .i64 a), (4, .i .i64 a2)]) [] =
    lmap (run (spec_IsChain_l3 l) (a, a2)) (fun (zr : Bool) => (XE.ret, frm [(2, .b zr)], [])) (fun (zr : Unit) => (XE.exit 0, frm [(0, .imm 5 (l.map cHand))], [])) := by
  obtain ⟨rfl⟩ := H1
  rw [LP_eq]
  simp -dsimp only [↓evA, evB, lpG_eq, Tryd.func43, Tryd.f43, Aa43, An43, TP, TZ, Nat.reduceAdd, Nat.reduceMul, Nat.reduceBEq, Nat.reduceLeDiff, Nat.reduceLT]
  apply run_map2 a a2
  intro a a2
  simp -dsimp +contextual only [↓evA, eZ, Nat.reduceAdd, Nat.reduceMul, Nat.reduceBEq, Nat.reduceLeDiff, Nat.reduceLT, e_spec_HandSeal, e_spec_l1In, e_spec_l16Last]
  try simp only [spec_IsChain_l3, eY]
  all_goals rfl
theorem e_spec_IsChain {R1 l} [H1 : EncL cHand R1 l] : CP T (n + 7) 43 [.imm 5 R1] = (spec_IsChain l).map fun r => .b r := by
  obtain ⟨rfl⟩ := H1
  rw [CP_eq]
  simp -dsimp +contextual only [↓evA, eZ, Nat.reduceAdd, Nat.reduceMul, Nat.reduceBEq, Nat.reduceLeDiff, Nat.reduceLT, Tryd.func43, Tryd.f43, Aa43, An43, e_spec_IsChain_l3]
  try simp only [spec_IsChain, eY]
  all_goals rfl
theorem e_spec_AddHand {R1 l R2 a} [H1 : EncL cHand R1 l] [H2 : EncR cHand R2 a] : CP T (n + 8) 36 [.imm 5 R1, .agg R2] = (spec_AddHand l a).map fun r => .tup [.own 5 (r.1.map cHand), .b r.2] := by
  rcases H1, H2 with ⟨⟨rfl⟩, ⟨rfl⟩⟩
  rw [CP_eq]
  simp -dsimp +contextual only [↓evA, eZ, Nat.reduceAdd, Nat.reduceMul, Nat.reduceBEq, Nat.reduceLeDiff, Nat.reduceLT, Tryd.func36, Tryd.f36, Aa36, An36, e_spec_HandSeal, e_spec_IsChain]
  try simp only [spec_AddHand, eY]
  try simp only [List.contains_nil, Bool.not_false, Bool.and_true, e_need_t, List.length_append, List.length_cons, List.length_nil, Nat.zero_add, need_comm, oeq_self]
  all_goals first | rfl | (simp +contextual only [evN] <;> rfl)
theorem e_spec_l16Draw_l4 (a i) {R1 c R2 l} [H1 : EncR cl1Cur R1 c] [H2 : EncL cHand R2 l] : LP T (n + 9) 30 4 (frm [(0, .ptr 0 0 0), (3, .sl 1), (4, .i .i64 a), (5, .i .i64 i)]) [some (Ent.box R1), some (Ent.lst 5 R2)] =
    (run spec_l16Draw_l4 (c, l, a, i)).map (fun (zr : l1Cur × (List Hand)) => (XE.exit 0, frm [(0, .ptr 0 0 0), (3, .sl 1)], [some (Ent.box (cl1Cur zr.1)), some (Ent.lst 5 (zr.2.map cHand))])) := by
  rcases H1, H2 with ⟨⟨rfl⟩, ⟨rfl⟩⟩
  rw [LP_eq]
  simp -dsimp only [↓evA, evB, lpG_eq, Tryd.func30, Tryd.f30, Aa30, An30, TP, TZ, Nat.reduceAdd, Nat.reduceMul, Nat.reduceBEq, Nat.reduceLeDiff, Nat.reduceLT]
  apply run_map4 c l a i
  intro c l a i
  simp -dsimp +contextual only [↓evA, eZ, Nat.reduceAdd, Nat.reduceMul, Nat.reduceBEq, Nat.reduceLeDiff, Nat.reduceLT, srt, e_spec_l16One, e_spec_AddHand, e_spec_l1Below]
  try simp only [spec_l16Draw_l4, eY]
  all_goals rfl
theorem e_spec_l16Draw {R1 c} [H1 : EncR cl1Cur R1 c] : CA T (n + 10) 30 [some (Ent.box R1)] [.ptr 0 0 0] = (spec_l16Draw c).map fun r => (.sl 1, [some (Ent.box (cl1Cur r.1)), some (Ent.lst 5 (r.2.map cHand))]) := by
  obtain ⟨rfl⟩ := H1
  rw [CA_eq]
  simp -dsimp +contextual (maxSteps := 100000000) only [↓evA, eZ, Nat.reduceAdd, Nat.reduceMul, Nat.reduceBEq, Nat.reduceLeDiff, Nat.reduceLT, Tryd.func30, Tryd.f30, Aa30, An30, srt, e_spec_l1Below, e_spec_l16Draw_l4]
  try simp only [spec_l16Draw, eY]
  all_goals rfl
theorem e_spec_l4Raw {R1 c} [H1 : EncR cl1Cur R1 c] : CA T (n + 4) 31 [some (Ent.box R1)] [.ptr 0 0 0] = (spec_l4Raw c).map fun r => (.i .i64 r.2, [some (Ent.box (cl1Cur r.1))]) := by
  obtain ⟨rfl⟩ := H1
  rw [CA_eq]
  simp -dsimp +contextual (maxSteps := 100000000) only [↓evA, eZ, Nat.reduceAdd, Nat.reduceMul, Nat.reduceBEq, Nat.reduceLeDiff, Nat.reduceLT, Tryd.func31, Tryd.f31, Aa31, An31, srt, e_spec_l1Int_o1]
  try simp only [spec_l4Raw, eY]
  all_goals rfl
theorem e_spec_l16Any {R1 c} [H1 : EncR cl1Cur R1 c] : CA T (n + 11) 23 [some (Ent.box R1)] [.ptr 0 0 0] = (spec_l16Any c).map fun r => (.sl 1, [some (Ent.box (cl1Cur r.1)), some (Ent.lst 5 (r.2.map cHand))]) := by
  obtain ⟨rfl⟩ := H1
  rw [CA_eq]
  simp -dsimp +contextual (maxSteps := 100000000) only [↓evA, eZ, Nat.reduceAdd, Nat.reduceMul, Nat.reduceBEq, Nat.reduceLeDiff, Nat.reduceLT, Tryd.func23, Tryd.f23, Aa23, An23, srt, e_spec_l16Draw, e_spec_l1Below, e_spec_l1Int_o1, e_spec_l4Raw]
  try simp only [spec_l16Any, eY]
  all_goals rfl
theorem e_spec_DrawHandsOf {R1 c} [H1 : EncL c_u8 R1 c] : CP T (n + 12) 14 [.imm 1 R1] = (spec_DrawHandsOf c).map fun r => .tup [.own 5 (r.1.map cHand), .i .i64 r.2] := by
  obtain ⟨rfl⟩ := H1
  rw [CP_eq]
  simp -dsimp +contextual only [↓evA, eZ, Nat.reduceAdd, Nat.reduceMul, Nat.reduceBEq, Nat.reduceLeDiff, Nat.reduceLT, Tryd.func14, Tryd.f14, Aa14, An14, srt, e_spec_l1New, e_spec_l16Any, e_spec_l1Below]
  try simp only [spec_DrawHandsOf, eY]
  all_goals first | rfl | (simp +contextual only [evN] <;> rfl)
theorem e_spec_DrawStoryOf {R1 c} [H1 : EncL c_u8 R1 c] : CP T (n + 13) 5 [.imm 1 R1] = (spec_DrawStoryOf c).map fun r => .tup [.own 5 (r.1.map cHand), .i .i64 r.2] := by
  obtain ⟨rfl⟩ := H1
  rw [CP_eq]
  simp -dsimp +contextual only [↓evA, eZ, Nat.reduceAdd, Nat.reduceMul, Nat.reduceBEq, Nat.reduceLeDiff, Nat.reduceLT, Tryd.func5, Tryd.f5, Aa5, An5, e_spec_DrawHandsOf]
  try simp only [spec_DrawStoryOf, eY]
  all_goals first | rfl | (simp +contextual only [evN] <;> rfl)
theorem e_impl_HandsOf_l3 (a a3 a4) {R1 o R2 a2} [H1 : EncL cHand R1 o] [H2 : EncL cHand R2 a2] : LP T (n + 1) 7 3 (frm [(1, .i .i64 a), (5, .sl 0), (9, .imm 5 R2), (10, .i .i64 a3), (11, .i .i64 a4)]) [some (Ent.lst 5 R1)] =
    (run (impl_HandsOf_l3 a a2 a3) (o, a4)).map (fun (zr : (List Hand)) => (XE.exit 0, frm [(5, .sl 0)], [some (Ent.lst 5 (zr.map cHand))])) := by
  rcases H1, H2 with ⟨⟨rfl⟩, ⟨rfl⟩⟩
  rw [LP_eq]
  simp -dsimp only [↓evA, evB, lpG_eq, Tryd.func7, Tryd.f7, Aa7, An7, TP, TZ, Nat.reduceAdd, Nat.reduceMul, Nat.reduceBEq, Nat.reduceLeDiff, Nat.reduceLT]
  apply run_map2 o a4
  intro o a4
  simp -dsimp +contextual only [↓evA, eZ, Nat.reduceAdd, Nat.reduceMul, Nat.reduceBEq, Nat.reduceLeDiff, Nat.reduceLT]
  try simp only [impl_HandsOf_l3, eY]
  all_goals rfl
theorem e_impl_HandsOf (a) {R1 l} [H1 : EncL cHand R1 l] : CP T (n + 2) 7 [.imm 5 R1, .i .i64 a] = (impl_HandsOf l a).map fun r => .own 5 (r.map cHand) := by
  obtain ⟨rfl⟩ := H1
  rw [CP_eq]
  simp -dsimp +contextual only [↓evA, eZ, Nat.reduceAdd, Nat.reduceMul, Nat.reduceBEq, Nat.reduceLeDiff, Nat.reduceLT, Tryd.func7, Tryd.f7, Aa7, An7, e_impl_HandsOf_l3]
  try simp only [impl_HandsOf, eY]
  all_goals first | rfl | (simp +contextual only [evN] <;> rfl)
theorem e_impl_InRange (a l a2) : CP T (n + 1) 21 [.i .i64 a, .i .i64 l, .i .i64 a2] = (impl_InRange a l a2).map fun r => .b r := by
  rw [CP_eq]
  simp -dsimp +contextual only [↓evA, eZ, Nat.reduceAdd, Nat.reduceMul, Nat.reduceBEq, Nat.reduceLeDiff, Nat.reduceLT, Tryd.func21, Tryd.f21, Aa21, An21]
  try simp only [impl_InRange, eY]
  all_goals rfl
theorem e_impl_HolderText (a) : CP T (n + 2) 13 [.i .i64 a] = (impl_HolderText a).map fun r => .s r := by
  rw [CP_eq]
  simp -dsimp +contextual only [↓evA, eZ, Nat.reduceAdd, Nat.reduceMul, Nat.reduceBEq, Nat.reduceLeDiff, Nat.reduceLT, Tryd.func13, Tryd.f13, Aa13, An13, e_impl_InRange]
  try simp only [impl_HolderText, eY]
  all_goals rfl
theorem e_impl_FormatInt (a) : CP T (n + 2) 15 [.i .i64 a] = (impl_FormatInt a).map fun r => .s r := by
  rw [CP_eq]
  simp -dsimp +contextual only [↓evA, eZ, Nat.reduceAdd, Nat.reduceMul, Nat.reduceBEq, Nat.reduceLeDiff, Nat.reduceLT, Tryd.func15, Tryd.f15, Aa15, An15, e_strconv_Itoa]
  try simp only [impl_FormatInt, eY]
  all_goals rfl
theorem e_impl_StoryOf_l3 (a2 a3) {R1 o R2 a} [H1 : EncL c_s R1 o] [H2 : EncL cHand R2 a] : LP T (n + 3) 6 3 (frm [(5, .sl 0), (11, .sl 1), (12, .i .i64 a2), (13, .i .i64 a3)]) [some (Ent.lst 1 R1), some (Ent.lst 5 R2)] =
    (run (impl_StoryOf_l3 a a2) (o, a3)).map (fun (zr : (List (List UInt8))) => (XE.exit 0, frm [(5, .sl 0)], [some (Ent.lst 1 (zr.map c_s))])) := by
  rcases H1, H2 with ⟨⟨rfl⟩, ⟨rfl⟩⟩
  rw [LP_eq]
  simp -dsimp only [↓evA, evB, lpG_eq, Tryd.func6, Tryd.f6, Aa6, An6, TP, TZ, Nat.reduceAdd, Nat.reduceMul, Nat.reduceBEq, Nat.reduceLeDiff, Nat.reduceLT]
  apply run_map2 o a3
  intro o a3
  simp -dsimp +contextual only [↓evA, eZ, Nat.reduceAdd, Nat.reduceMul, Nat.reduceBEq, Nat.reduceLeDiff, Nat.reduceLT, e_impl_HolderText, e_impl_FormatInt]
  try simp only [impl_StoryOf_l3, eY]
  all_goals rfl
theorem e_impl_StoryOf (a) {R1 l} [H1 : EncL cHand R1 l] : CP T (n + 4) 6 [.imm 5 R1, .i .i64 a] = (impl_StoryOf l a).map fun r => .s r := by
  obtain ⟨rfl⟩ := H1
  rw [CP_eq]
  simp -dsimp +contextual only [↓evA, eZ, Nat.reduceAdd, Nat.reduceMul, Nat.reduceBEq, Nat.reduceLeDiff, Nat.reduceLT, Tryd.func6, Tryd.f6, Aa6, An6, e_impl_HandsOf, e_strings_Join, e_impl_StoryOf_l3]
  try simp only [impl_StoryOf, eY]
  all_goals rfl
theorem e_impl_lastHand_l2 (a i) {R1 l} [H1 : EncL cHand R1 l] : LP T (n + 1) 17 2 (frm [(0, .imm 5 R1), (1, .i .i64 a), (5, .i .i64 i)]) [] =
    lmap (run (impl_lastHand_l2 l a) i) (fun (zr : Int) => (XE.ret, frm [(4, .i .i64 zr)], [])) (fun (zr : Unit) => (XE.exit 0, frm [], [])) := by
  obtain ⟨rfl⟩ := H1
  rw [LP_eq]
  simp -dsimp only [↓evA, evB, lpG_eq, Tryd.func17, Tryd.f17, Aa17, An17, TP, TZ, Nat.reduceAdd, Nat.reduceMul, Nat.reduceBEq, Nat.reduceLeDiff, Nat.reduceLT]
  apply run_map1 i
  intro i
  simp -dsimp +contextual only [↓evA, eZ, Nat.reduceAdd, Nat.reduceMul, Nat.reduceBEq, Nat.reduceLeDiff, Nat.reduceLT]
  try simp only [impl_lastHand_l2, eY]
  all_goals rfl
theorem e_impl_lastHand (a) {R1 l} [H1 : EncL cHand R1 l] : CP T (n + 2) 17 [.imm 5 R1, .i .i64 a] = (impl_lastHand l a).map fun r => .i .i64 r := by
  obtain ⟨rfl⟩ := H1
  rw [CP_eq]
  simp -dsimp +contextual only [↓evA, eZ, Nat.reduceAdd, Nat.reduceMul, Nat.reduceBEq, Nat.reduceLeDiff, Nat.reduceLT, Tryd.func17, Tryd.f17, Aa17, An17, e_impl_lastHand_l2]
  try simp only [impl_lastHand, eY]
  all_goals rfl
theorem e_impl_EndOf (a) {R1 l} [H1 : EncL cHand R1 l] : CP T (n + 3) 8 [.imm 5 R1, .i .i64 a] = (impl_EndOf l a).map fun r => .s r := by
  obtain ⟨rfl⟩ := H1
  rw [CP_eq]
  simp -dsimp +contextual only [↓evA, eZ, Nat.reduceAdd, Nat.reduceMul, Nat.reduceBEq, Nat.reduceLeDiff, Nat.reduceLT, Tryd.func8, Tryd.f8, Aa8, An8, e_impl_lastHand, e_impl_HolderText]
  try simp only [impl_EndOf, eY]
  all_goals rfl
theorem e_spec_DrawStayHours {R1 c} [H1 : EncL c_u8 R1 c] : CP T (n + 13) 9 [.imm 1 R1] = (spec_DrawStayHours c).map fun r => .tup [.own 5 (r.1.map cHand), .i .i64 r.2.1, .i .i64 r.2.2] := by
  obtain ⟨rfl⟩ := H1
  rw [CP_eq]
  simp -dsimp +contextual only [↓evA, eZ, Nat.reduceAdd, Nat.reduceMul, Nat.reduceBEq, Nat.reduceLeDiff, Nat.reduceLT, Tryd.func9, Tryd.f9, Aa9, An9, srt, e_spec_DrawHandsOf, e_spec_l1New, e_spec_l1Int_o1]
  try simp only [spec_DrawStayHours, eY]
  all_goals first | rfl | (simp +contextual only [evN] <;> rfl)
theorem e_impl_Mod (p q) : CP T (n + 2) 48 [.i .i64 p, .i .i64 q] = (impl_Mod p q).map fun r => .i .i64 r := by
  rw [CP_eq]
  simp -dsimp +contextual only [↓evA, eZ, Nat.reduceAdd, Nat.reduceMul, Nat.reduceBEq, Nat.reduceLeDiff, Nat.reduceLT, Tryd.func48, Tryd.f48, Aa48, An48, e_impl_InRange]
  try simp only [impl_Mod, eY]
  all_goals rfl
theorem e_impl_fold (a v) : CP T (n + 3) 41 [.i .i64 a, .i .i64 v] = (impl_fold a v).map fun r => .i .i64 r := by
  rw [CP_eq]
  simp -dsimp +contextual only [↓evA, eZ, Nat.reduceAdd, Nat.reduceMul, Nat.reduceBEq, Nat.reduceLeDiff, Nat.reduceLT, Tryd.func41, Tryd.f41, Aa41, An41, e_impl_Mod]
  try simp only [impl_fold, eY]
  all_goals rfl
theorem e_impl_Hash_l3 (a a3 a4) {R1 a2} [H1 : EncL c_i64 R1 a2] : LP T (n + 4) 35 3 (frm [(3, .i .i64 a), (6, .imm 1 R1), (7, .i .i64 a3), (8, .i .i64 a4)]) [] =
    (run (impl_Hash_l3 a2 a3) (a, a4)).map (fun (zr : Int) => (XE.exit 0, frm [(3, .i .i64 zr)], [])) := by
  obtain ⟨rfl⟩ := H1
  rw [LP_eq]
  simp -dsimp only [↓evA, evB, lpG_eq, Tryd.func35, Tryd.f35, Aa35, An35, TP, TZ, Nat.reduceAdd, Nat.reduceMul, Nat.reduceBEq, Nat.reduceLeDiff, Nat.reduceLT]
  apply run_map2 a a4
  intro a a4
  simp -dsimp +contextual only [↓evA, eZ, Nat.reduceAdd, Nat.reduceMul, Nat.reduceBEq, Nat.reduceLeDiff, Nat.reduceLT, e_impl_fold]
  try simp only [impl_Hash_l3, eY]
  all_goals rfl
theorem e_impl_Hash {R1 v} [H1 : EncL c_i64 R1 v] : CP T (n + 5) 35 [.imm 1 R1] = (impl_Hash v).map fun r => .i .i64 r := by
  obtain ⟨rfl⟩ := H1
  rw [CP_eq]
  simp -dsimp +contextual only [↓evA, eZ, Nat.reduceAdd, Nat.reduceMul, Nat.reduceBEq, Nat.reduceLeDiff, Nat.reduceLT, Tryd.func35, Tryd.f35, Aa35, An35, e_impl_Hash_l3]
  try simp only [impl_Hash, eY]
  all_goals rfl
theorem e_impl_HandSeal (b) {R1 a} [H1 : EncR cHand R1 a] : CP T (n + 6) 28 [.i .i64 b, .agg R1] = (impl_HandSeal b a).map fun r => .i .i64 r := by
  obtain ⟨rfl⟩ := H1
  rw [CP_eq]
  simp -dsimp +contextual only [↓evA, eZ, Nat.reduceAdd, Nat.reduceMul, Nat.reduceBEq, Nat.reduceLeDiff, Nat.reduceLT, Tryd.func28, Tryd.f28, Aa28, An28, e_impl_Hash]
  try simp only [impl_HandSeal, eY]
  all_goals rfl
theorem e_impl_IsChain_l5 (a a3 a4) {R1 l R2 a2} [H1 : EncL cHand R1 l] [H2 : EncL cHand R2 a2] : LP T (n + 7) 20 5 (frm [(0, .imm 5 R1), (3, .i .i64 a), (10, .imm 5 R2), (11, .i .i64 a3), (12, .i .i64 a4)]) [] =
    lmap (run (impl_IsChain_l5 l a2 a3) (a, a4)) (fun (zr : Bool) => (XE.ret, frm [(2, .b zr)], [])) (fun (zr : Unit) => (XE.exit 0, frm [], [])) := by
  rcases H1, H2 with ⟨⟨rfl⟩, ⟨rfl⟩⟩
  rw [LP_eq]
  simp -dsimp only [↓evA, evB, lpG_eq, Tryd.func20, Tryd.f20, Aa20, An20, TP, TZ, Nat.reduceAdd, Nat.reduceMul, Nat.reduceBEq, Nat.reduceLeDiff, Nat.reduceLT]
  apply run_map2 a a4
  intro a a4
  simp -dsimp +contextual only [↓evA, eZ, Nat.reduceAdd, Nat.reduceMul, Nat.reduceBEq, Nat.reduceLeDiff, Nat.reduceLT, e_impl_InRange, e_impl_HandSeal, e_impl_lastHand]
  try simp only [impl_IsChain_l5, eY]
  all_goals rfl
theorem e_impl_IsChain {R1 l} [H1 : EncL cHand R1 l] : CP T (n + 8) 20 [.imm 5 R1] = (impl_IsChain l).map fun r => .b r := by
  obtain ⟨rfl⟩ := H1
  rw [CP_eq]
  simp -dsimp +contextual only [↓evA, eZ, Nat.reduceAdd, Nat.reduceMul, Nat.reduceBEq, Nat.reduceLeDiff, Nat.reduceLT, Tryd.func20, Tryd.f20, Aa20, An20, e_impl_IsChain_l5]
  try simp only [impl_IsChain, eY]
  all_goals rfl
theorem e_impl_StayHours_l6 (a a2 a4 a5) {R1 a3} [H1 : EncL cHand R1 a3] : LP T (n + 1) 10 6 (frm [(2, .i .i64 a), (7, .i .i64 a2), (8, .sl 0), (24, .sl 0), (25, .i .i64 a4), (26, .i .i64 a5)]) [some (Ent.lst 5 R1)] =
    (run (impl_StayHours_l6 a a3 a4) (a2, a5)).map (fun (zr : Int) => (XE.exit 0, frm [(7, .i .i64 zr)], [])) := by
  obtain ⟨rfl⟩ := H1
  rw [LP_eq]
  simp -dsimp only [↓evA, evB, lpG_eq, Tryd.func10, Tryd.f10, Aa10, An10, TP, TZ, Nat.reduceAdd, Nat.reduceMul, Nat.reduceBEq, Nat.reduceLeDiff, Nat.reduceLT]
  apply run_map2 a2 a5
  intro a2 a5
  simp -dsimp +contextual only [↓evA, eZ, Nat.reduceAdd, Nat.reduceMul, Nat.reduceBEq, Nat.reduceLeDiff, Nat.reduceLT]
  try simp only [impl_StayHours_l6, eY]
  all_goals rfl
theorem e_impl_StayHours (a a2) {R1 l} [H1 : EncL cHand R1 l] : CP T (n + 9) 10 [.imm 5 R1, .i .i64 a, .i .i64 a2] = (impl_StayHours l a a2).map fun r => .i .i64 r := by
  obtain ⟨rfl⟩ := H1
  rw [CP_eq]
  simp -dsimp +contextual only [↓evA, eZ, Nat.reduceAdd, Nat.reduceMul, Nat.reduceBEq, Nat.reduceLeDiff, Nat.reduceLT, Tryd.func10, Tryd.f10, Aa10, An10, e_impl_IsChain, e_impl_InRange, e_impl_HandsOf, e_impl_StayHours_l6]
  try simp only [impl_StayHours, eY]
  all_goals rfl
theorem e_spec_DrawHolderText {R1 c} [H1 : EncL c_u8 R1 c] : CP T (n + 3) 11 [.imm 1 R1] = (spec_DrawHolderText c).map fun r => .i .i64 r := by
  obtain ⟨rfl⟩ := H1
  rw [CP_eq]
  simp -dsimp +contextual only [↓evA, eZ, Nat.reduceAdd, Nat.reduceMul, Nat.reduceBEq, Nat.reduceLeDiff, Nat.reduceLT, Tryd.func11, Tryd.f11, Aa11, An11, srt, e_spec_l1New, e_spec_l1Below]
  try simp only [spec_DrawHolderText, eY]
  all_goals rfl
theorem e_impl_TravelCount_l4 (a i) {R1 a2} [H1 : EncL cHand R1 a2] : LP T (n + 1) 12 4 (frm [(5, .i .i64 a), (6, .sl 0), (7, .i .i64 i)]) [some (Ent.lst 5 R1)] =
    (run (impl_TravelCount_l4 a2) (a, i)).map (fun (zr : Int) => (XE.exit 0, frm [(5, .i .i64 zr)], [])) := by
  obtain ⟨rfl⟩ := H1
  rw [LP_eq]
  simp -dsimp only [↓evA, evB, lpG_eq, Tryd.func12, Tryd.f12, Aa12, An12, TP, TZ, Nat.reduceAdd, Nat.reduceMul, Nat.reduceBEq, Nat.reduceLeDiff, Nat.reduceLT]
  apply run_map2 a i
  intro a i
  simp -dsimp +contextual only [↓evA, eZ, Nat.reduceAdd, Nat.reduceMul, Nat.reduceBEq, Nat.reduceLeDiff, Nat.reduceLT]
  try simp only [impl_TravelCount_l4, eY]
  all_goals rfl
theorem e_impl_TravelCount (a) {R1 l} [H1 : EncL cHand R1 l] : CP T (n + 3) 12 [.imm 5 R1, .i .i64 a] = (impl_TravelCount l a).map fun r => .i .i64 r := by
  obtain ⟨rfl⟩ := H1
  rw [CP_eq]
  simp -dsimp +contextual only [↓evA, eZ, Nat.reduceAdd, Nat.reduceMul, Nat.reduceBEq, Nat.reduceLeDiff, Nat.reduceLT, Tryd.func12, Tryd.f12, Aa12, An12, e_impl_HandsOf, e_impl_TravelCount_l4]
  try simp only [impl_TravelCount, eY]
  all_goals rfl
theorem e_laws_FnStories_l8 (a2 a3 a5 a6) {R1 c R2 a R3 a4} [H1 : EncL c_u8 R1 c] [H2 : EncL cHand R2 a] [H3 : EncL cHand R3 a4] : LP T (n + 1) 3 8 (frm [(0, .imm 1 R1), (3, .sl 0), (4, .i .i64 a2), (5, .s a3), (6, .sl 1), (7, .i .i64 a5), (8, .i .i64 a6)]) [some (Ent.lst 5 R2), some (Ent.lst 5 R3)] =
    (run (laws_FnStories_l8 c a a2 a3 a4) (a5, a6)).map (fun (zr : Int) => (XE.exit 0, frm [(0, .imm 1 (c.map c_u8)), (3, .sl 0), (4, .i .i64 a2), (5, .s a3), (6, .sl 1), (7, .i .i64 zr)], [some (Ent.lst 5 (a.map cHand)), some (Ent.lst 5 (a4.map cHand))])) := by
  rcases H1, H2, H3 with ⟨⟨rfl⟩, ⟨rfl⟩, ⟨rfl⟩⟩
  rw [LP_eq]
  simp -dsimp only [↓evA, evB, lpG_eq, Tryd.func3, Tryd.f3, Aa3, An3, TP, TZ, Nat.reduceAdd, Nat.reduceMul, Nat.reduceBEq, Nat.reduceLeDiff, Nat.reduceLT]
  apply run_map2 a5 a6
  intro a5 a6
  simp -dsimp +contextual only [↓evA, eZ, Nat.reduceAdd, Nat.reduceMul, Nat.reduceBEq, Nat.reduceLeDiff, Nat.reduceLT]
  try simp only [laws_FnStories_l8, eY]
  all_goals rfl
theorem e_laws_FnStories {R1 c} [H1 : EncL c_u8 R1 c] : CP T (n + 14) 3 [.imm 1 R1] = (laws_FnStories c).map fun r => .b r := by
  obtain ⟨rfl⟩ := H1
  rw [CP_eq]
  simp -dsimp +contextual only [↓evA, eZ, Nat.reduceAdd, Nat.reduceMul, Nat.reduceBEq, Nat.reduceLeDiff, Nat.reduceLT, Tryd.func3, Tryd.f3, Aa3, An3, e_laws_big, e_spec_DrawStoryOf, e_impl_StoryOf, e_impl_HandsOf, e_impl_EndOf, e_spec_DrawStayHours, e_impl_StayHours, e_spec_DrawHolderText, e_impl_TravelCount, e_impl_HolderText, e_laws_FnStories_l8]
  try simp only [laws_FnStories, eY]
  all_goals rfl
end Go.Proofs.YtidclodlpdccaaaDoor
