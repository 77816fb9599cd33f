/- The functions of the program come to the typed ones. No condition. -/
import Derived.Test.YtcpelionmmnogaaEc
namespace Go.Proofs.Ytcpelionmmnogaa
open Go Go.Proofs Go.Proofs.Ytcpelionmmnogaa.Am
set_option linter.unusedVariables false
set_option linter.unusedSimpArgs false
set_option linter.defProp false
set_option maxRecDepth 100000
theorem e_laws_szFindS (n : Nat) {R1} {a : List Find} (left : Int) [H1 : EncL cFind R1 a] : CP T (n + 1) 10 [.imm 8 R1, .i .i64 left] = (laws_szFindS a left).map fun r => .i .i64 r := by
  obtain ⟨rfl⟩ := H1
  rw [CP_eq]
  simp -dsimp +contextual only [↓evA, evB, evT, tys, encs, Nat.reduceAdd, Nat.reduceMul, Nat.reduceBEq, Nat.reduceLeDiff, Nat.reduceLT, Try.func10, Try.f10, a10, TP, orc_p, orc_l, orc_a]
  try simp only [laws_szFindS, evT, encs, c_js, r_map_some, e_need_t]
  all_goals rfl
theorem e_laws_szMarkS (n : Nat) {R1} {a : List Mark} (left : Int) [H1 : EncL cMark R1 a] : CP T (n + 1) 11 [.imm 2 R1, .i .i64 left] = (laws_szMarkS a left).map fun r => .i .i64 r := by
  obtain ⟨rfl⟩ := H1
  rw [CP_eq]
  simp -dsimp +contextual only [↓evA, evB, evT, tys, encs, Nat.reduceAdd, Nat.reduceMul, Nat.reduceBEq, Nat.reduceLeDiff, Nat.reduceLT, Try.func11, Try.f11, a11, TP, orc_p, orc_l, orc_a]
  try simp only [laws_szMarkS, evT, encs, c_js, r_map_some, e_need_t]
  all_goals rfl
theorem e_laws_toThing (n : Nat) (axId : Int) (axKind : Int) (axColour : Int) (axSize : Int) (axWorth : Int) : CP T (n + 1) 87 [.agg [.i .i64 axId, .i .i64 axKind, .i .i64 axColour, .i .i64 axSize, .i .i64 axWorth]] = (laws_toThing (⟨axId, axKind, axColour, axSize, axWorth⟩ : Thing)).map fun r => .agg (cThing r) := by
  rw [CP_eq]
  simp -dsimp +contextual only [↓evA, evB, evT, tys, encs, Nat.reduceAdd, Nat.reduceMul, Nat.reduceBEq, Nat.reduceLeDiff, Nat.reduceLT, Try.func87, Try.f87, a87, TP, orc_p, orc_l, orc_a]
  try simp only [laws_toThing, evT, encs, c_js, r_map_some, e_need_t]
  all_goals rfl
theorem e_laws_toFind (n : Nat) (axThingxId : Int) (axThingxKind : Int) (axThingxColour : Int) (axThingxSize : Int) (axThingxWorth : Int) (axPlace : Int) (axAt : Int) (axFinder : Int) : CP T (n + 2) 39 [.agg [.i .i64 axThingxId, .i .i64 axThingxKind, .i .i64 axThingxColour, .i .i64 axThingxSize, .i .i64 axThingxWorth, .i .i64 axPlace, .i .i64 axAt, .i .i64 axFinder]] = (laws_toFind (⟨⟨axThingxId, axThingxKind, axThingxColour, axThingxSize, axThingxWorth⟩, axPlace, axAt, axFinder⟩ : Find)).map fun r => .agg (cFind r) := by
  rw [CP_eq]
  simp -dsimp +contextual only [↓evA, evB, evT, tys, encs, Nat.reduceAdd, Nat.reduceMul, Nat.reduceBEq, Nat.reduceLeDiff, Nat.reduceLT, Try.func39, Try.f39, a39, TP, orc_p, orc_l, orc_a, e_laws_toThing]
  try simp only [laws_toFind, evT, encs, c_js, r_map_some, e_need_t]
  all_goals rfl
theorem e_laws_toFindS_l3 (n : Nat) {R1} {a : List Find} {R2} {out : List Find} (i : Int) [H1 : EncL cFind R1 a] [H2 : EncL cFind R2 out] : LP T (n + 3) 13 3 (frm [(0, .imm 8 R1), (3, .sl 0), (4, .i .i64 i)]) [some (Ent.lst 8 R2)] =
    (run (laws_toFindS_l3 a) (out, i)).map (fun (zr : (List Find)) => (XE.exit 0, frm [(3, .sl 0)], [some (Ent.lst 8 (zr.map cFind))])) := by
  obtain ⟨rfl⟩ := H1
  obtain ⟨rfl⟩ := H2
  rw [LP_eq]
  simp -dsimp only [↓evA, evB, lpG_eq, Try.func13, Try.f13, a13, TP, Nat.reduceAdd, Nat.reduceMul, Nat.reduceBEq, Nat.reduceLeDiff, Nat.reduceLT]
  refine run_map (fun (zs : (List Find) × Int) => (frm [(0, .imm 8 (a.map cFind)), (3, .sl 0), (4, .i .i64 zs.2)], [some (Ent.lst 8 (zs.1.map cFind))])) (fun (zr : (List Find)) => (XE.exit 0, frm [(3, .sl 0)], [some (Ent.lst 8 (zr.map cFind))])) ?_ (out, i)
  rintro ⟨out, i⟩
  simp -dsimp +contextual only [↓evA, evB, evT, tys, encs, Nat.reduceAdd, Nat.reduceMul, Nat.reduceBEq, Nat.reduceLeDiff, Nat.reduceLT, TP, orc_p, orc_l, orc_a, e_laws_toFind]
  try simp only [laws_toFindS_l3, evT, encs, c_js, r_map_some, e_need_t]
  all_goals rfl
theorem e_laws_toFindS (n : Nat) {R1} {a : List Find} [H1 : EncL cFind R1 a] : CP T (n + 4) 13 [.imm 8 R1] = (laws_toFindS a).map fun r => .own 8 (r.map cFind) := by
  obtain ⟨rfl⟩ := H1
  rw [CP_eq]
  simp -dsimp +contextual only [↓evA, evB, evT, tys, encs, Nat.reduceAdd, Nat.reduceMul, Nat.reduceBEq, Nat.reduceLeDiff, Nat.reduceLT, Try.func13, Try.f13, a13, TP, orc_p, orc_l, orc_a, e_laws_toFindS_l3]
  try simp only [laws_toFindS, evT, encs, c_js, r_map_some, e_need_t]
  all_goals rfl
theorem e_laws_toMark (n : Nat) (axQuestion : Int) (axAnswer : Int) : CP T (n + 1) 40 [.agg [.i .i64 axQuestion, .i .i64 axAnswer]] = (laws_toMark (⟨axQuestion, axAnswer⟩ : Mark)).map fun r => .agg (cMark r) := by
  rw [CP_eq]
  simp -dsimp +contextual only [↓evA, evB, evT, tys, encs, Nat.reduceAdd, Nat.reduceMul, Nat.reduceBEq, Nat.reduceLeDiff, Nat.reduceLT, Try.func40, Try.f40, a40, TP, orc_p, orc_l, orc_a]
  try simp only [laws_toMark, evT, encs, c_js, r_map_some, e_need_t]
  all_goals rfl
theorem e_laws_toMarkS_l3 (n : Nat) {R1} {a : List Mark} {R2} {out : List Mark} (i : Int) [H1 : EncL cMark R1 a] [H2 : EncL cMark R2 out] : LP T (n + 2) 14 3 (frm [(0, .imm 2 R1), (3, .sl 0), (4, .i .i64 i)]) [some (Ent.lst 2 R2)] =
    (run (laws_toMarkS_l3 a) (out, i)).map (fun (zr : (List Mark)) => (XE.exit 0, frm [(3, .sl 0)], [some (Ent.lst 2 (zr.map cMark))])) := by
  obtain ⟨rfl⟩ := H1
  obtain ⟨rfl⟩ := H2
  rw [LP_eq]
  simp -dsimp only [↓evA, evB, lpG_eq, Try.func14, Try.f14, a14, TP, Nat.reduceAdd, Nat.reduceMul, Nat.reduceBEq, Nat.reduceLeDiff, Nat.reduceLT]
  refine run_map (fun (zs : (List Mark) × Int) => (frm [(0, .imm 2 (a.map cMark)), (3, .sl 0), (4, .i .i64 zs.2)], [some (Ent.lst 2 (zs.1.map cMark))])) (fun (zr : (List Mark)) => (XE.exit 0, frm [(3, .sl 0)], [some (Ent.lst 2 (zr.map cMark))])) ?_ (out, i)
  rintro ⟨out, i⟩
  simp -dsimp +contextual only [↓evA, evB, evT, tys, encs, Nat.reduceAdd, Nat.reduceMul, Nat.reduceBEq, Nat.reduceLeDiff, Nat.reduceLT, TP, orc_p, orc_l, orc_a, e_laws_toMark]
  try simp only [laws_toMarkS_l3, evT, encs, c_js, r_map_some, e_need_t]
  all_goals rfl
theorem e_laws_toMarkS (n : Nat) {R1} {a : List Mark} [H1 : EncL cMark R1 a] : CP T (n + 3) 14 [.imm 2 R1] = (laws_toMarkS a).map fun r => .own 2 (r.map cMark) := by
  obtain ⟨rfl⟩ := H1
  rw [CP_eq]
  simp -dsimp +contextual only [↓evA, evB, evT, tys, encs, Nat.reduceAdd, Nat.reduceMul, Nat.reduceBEq, Nat.reduceLeDiff, Nat.reduceLT, Try.func14, Try.f14, a14, TP, orc_p, orc_l, orc_a, e_laws_toMarkS_l3]
  try simp only [laws_toMarkS, evT, encs, c_js, r_map_some, e_need_t]
  all_goals rfl
theorem e_spec_FindAll_l3 (n : Nat) {R1} {l : List Find} {R2} {marks : List Mark} {R3} {out : List Event} (i : Int) [H1 : EncL cFind R1 l] [H2 : EncL cMark R2 marks] [H3 : EncL cEventO R3 out] : LP T (n + 1) 12 3 (frm [(0, .imm 8 R1), (1, .imm 2 R2), (5, .sl 0), (6, .i .i64 i)]) [some (Ent.lst 14 R3)] =
    (run (spec_FindAll_l3 l marks) (out, i)).map (fun (zr : (List Event)) => (XE.exit 0, frm [(5, .sl 0)], [some (Ent.lst 14 (zr.map cEventO))])) := by
  obtain ⟨rfl⟩ := H1
  obtain ⟨rfl⟩ := H2
  obtain ⟨rfl⟩ := H3
  rw [LP_eq]
  simp -dsimp only [↓evA, evB, lpG_eq, Try.func12, Try.f12, a12, TP, Nat.reduceAdd, Nat.reduceMul, Nat.reduceBEq, Nat.reduceLeDiff, Nat.reduceLT]
  refine run_map (fun (zs : (List Event) × Int) => (frm [(0, .imm 8 (l.map cFind)), (1, .imm 2 (marks.map cMark)), (5, .sl 0), (6, .i .i64 zs.2)], [some (Ent.lst 14 (zs.1.map cEventO))])) (fun (zr : (List Event)) => (XE.exit 0, frm [(5, .sl 0)], [some (Ent.lst 14 (zr.map cEventO))])) ?_ (out, i)
  rintro ⟨out, i⟩
  simp -dsimp +contextual only [↓evA, evB, evT, tys, encs, Nat.reduceAdd, Nat.reduceMul, Nat.reduceBEq, Nat.reduceLeDiff, Nat.reduceLT, TP, orc_p, orc_l, orc_a]
  try simp only [spec_FindAll_l3, evT, encs, c_js, r_map_some, e_need_t]
  try simp only [List.contains_nil, Bool.not_false, Bool.and_true, e_need_t, List.length_append, List.length_cons, List.length_nil, Nat.zero_add, need_comm, oeq_self]
  all_goals rfl
theorem e_spec_FindAll (n : Nat) {R1} {l : List Find} {R2} {marks : List Mark} [H1 : EncL cFind R1 l] [H2 : EncL cMark R2 marks] : CP T (n + 2) 12 [.imm 8 R1, .imm 2 R2] = (spec_FindAll l marks).map fun r => .own 14 (r.map cEventO) := by
  obtain ⟨rfl⟩ := H1
  obtain ⟨rfl⟩ := H2
  rw [CP_eq]
  simp -dsimp +contextual only [↓evA, evB, evT, tys, encs, Nat.reduceAdd, Nat.reduceMul, Nat.reduceBEq, Nat.reduceLeDiff, Nat.reduceLT, Try.func12, Try.f12, a12, TP, orc_p, orc_l, orc_a, e_spec_FindAll_l3]
  try simp only [spec_FindAll, evT, encs, c_js, r_map_some, e_need_t]
  try simp only [List.contains_nil, Bool.not_false, Bool.and_true, e_need_t, List.length_append, List.length_cons, List.length_nil, Nat.zero_add, need_comm, oeq_self]
  all_goals rfl
theorem e_slices_Clone_Mark (n : Nat) {R1} {s : List Mark} [H1 : EncL cMark R1 s] : CP T (n + 1) 41 [.imm 2 R1] = (slices_Clone_Mark s).map fun r => .own 2 (r.map cMark) := by
  obtain ⟨rfl⟩ := H1
  rw [CP_eq]
  simp -dsimp +contextual only [↓evA, evB, evT, tys, encs, Nat.reduceAdd, Nat.reduceMul, Nat.reduceBEq, Nat.reduceLeDiff, Nat.reduceLT, Try.func41, Try.f41, a41, TP, orc_p, orc_l, orc_a]
  try simp only [slices_Clone_Mark, evT, encs, c_js, r_map_some, e_need_t]
  all_goals rfl
theorem e_impl_FindAll_l3 (n : Nat) {R1} {marks : List Mark} {R2} {out : List Event} {R3} {t9 : List Find} (t10 : Int) (t11 : Int) [H1 : EncL cMark R1 marks] [H2 : EncL cEventO R2 out] [H3 : EncL cFind R3 t9] : LP T (n + 2) 15 3 (frm [(1, .imm 2 R1), (5, .sl 0), (9, .imm 8 R3), (10, .i .i64 t10), (11, .i .i64 t11)]) [some (Ent.lst 14 R2)] =
    (run (impl_FindAll_l3 marks t9 t10) (out, t11)).map (fun (zr : (List Event)) => (XE.exit 0, frm [(5, .sl 0)], [some (Ent.lst 14 (zr.map cEventO))])) := by
  obtain ⟨rfl⟩ := H1
  obtain ⟨rfl⟩ := H2
  obtain ⟨rfl⟩ := H3
  rw [LP_eq]
  simp -dsimp only [↓evA, evB, lpG_eq, Try.func15, Try.f15, a15, TP, Nat.reduceAdd, Nat.reduceMul, Nat.reduceBEq, Nat.reduceLeDiff, Nat.reduceLT]
  refine run_map (fun (zs : (List Event) × Int) => (frm [(1, .imm 2 (marks.map cMark)), (5, .sl 0), (9, .imm 8 (t9.map cFind)), (10, .i .i64 t10), (11, .i .i64 zs.2)], [some (Ent.lst 14 (zs.1.map cEventO))])) (fun (zr : (List Event)) => (XE.exit 0, frm [(5, .sl 0)], [some (Ent.lst 14 (zr.map cEventO))])) ?_ (out, t11)
  rintro ⟨out, t11⟩
  simp -dsimp +contextual only [↓evA, evB, evT, tys, encs, Nat.reduceAdd, Nat.reduceMul, Nat.reduceBEq, Nat.reduceLeDiff, Nat.reduceLT, TP, orc_p, orc_l, orc_a, e_slices_Clone_Mark]
  try simp only [impl_FindAll_l3, evT, encs, c_js, r_map_some, e_need_t]
  all_goals rfl
theorem e_impl_FindAll (n : Nat) {R1} {l : List Find} {R2} {marks : List Mark} [H1 : EncL cFind R1 l] [H2 : EncL cMark R2 marks] : CP T (n + 3) 15 [.imm 8 R1, .imm 2 R2] = (impl_FindAll l marks).map fun r => .own 14 (r.map cEventO) := by
  obtain ⟨rfl⟩ := H1
  obtain ⟨rfl⟩ := H2
  rw [CP_eq]
  simp -dsimp +contextual only [↓evA, evB, evT, tys, encs, Nat.reduceAdd, Nat.reduceMul, Nat.reduceBEq, Nat.reduceLeDiff, Nat.reduceLT, Try.func15, Try.f15, a15, TP, orc_p, orc_l, orc_a, e_impl_FindAll_l3]
  try simp only [impl_FindAll, evT, encs, c_js, r_map_some, e_need_t]
  all_goals rfl
theorem e_laws_eqThing (n : Nat) (axId : Int) (axKind : Int) (axColour : Int) (axSize : Int) (axWorth : Int) (bxId : Int) (bxKind : Int) (bxColour : Int) (bxSize : Int) (bxWorth : Int) : CP T (n + 1) 89 [.agg [.i .i64 axId, .i .i64 axKind, .i .i64 axColour, .i .i64 axSize, .i .i64 axWorth], .agg [.i .i64 bxId, .i .i64 bxKind, .i .i64 bxColour, .i .i64 bxSize, .i .i64 bxWorth]] = (laws_eqThing (⟨axId, axKind, axColour, axSize, axWorth⟩ : Thing) (⟨bxId, bxKind, bxColour, bxSize, bxWorth⟩ : Thing)).map fun r => .b r := by
  rw [CP_eq]
  simp -dsimp +contextual only [↓evA, evB, evT, tys, encs, Nat.reduceAdd, Nat.reduceMul, Nat.reduceBEq, Nat.reduceLeDiff, Nat.reduceLT, Try.func89, Try.f89, a89, TP, orc_p, orc_l, orc_a]
  try simp only [laws_eqThing, evT, encs, c_js, r_map_some, e_need_t]
  all_goals rfl
theorem e_laws_eqFind (n : Nat) (axThingxId : Int) (axThingxKind : Int) (axThingxColour : Int) (axThingxSize : Int) (axThingxWorth : Int) (axPlace : Int) (axAt : Int) (axFinder : Int) (bxThingxId : Int) (bxThingxKind : Int) (bxThingxColour : Int) (bxThingxSize : Int) (bxThingxWorth : Int) (bxPlace : Int) (bxAt : Int) (bxFinder : Int) : CP T (n + 2) 43 [.agg [.i .i64 axThingxId, .i .i64 axThingxKind, .i .i64 axThingxColour, .i .i64 axThingxSize, .i .i64 axThingxWorth, .i .i64 axPlace, .i .i64 axAt, .i .i64 axFinder], .agg [.i .i64 bxThingxId, .i .i64 bxThingxKind, .i .i64 bxThingxColour, .i .i64 bxThingxSize, .i .i64 bxThingxWorth, .i .i64 bxPlace, .i .i64 bxAt, .i .i64 bxFinder]] = (laws_eqFind (⟨⟨axThingxId, axThingxKind, axThingxColour, axThingxSize, axThingxWorth⟩, axPlace, axAt, axFinder⟩ : Find) (⟨⟨bxThingxId, bxThingxKind, bxThingxColour, bxThingxSize, bxThingxWorth⟩, bxPlace, bxAt, bxFinder⟩ : Find)).map fun r => .b r := by
  rw [CP_eq]
  simp -dsimp +contextual only [↓evA, evB, evT, tys, encs, Nat.reduceAdd, Nat.reduceMul, Nat.reduceBEq, Nat.reduceLeDiff, Nat.reduceLT, Try.func43, Try.f43, a43, TP, orc_p, orc_l, orc_a, e_laws_eqThing]
  try simp only [laws_eqFind, evT, encs, c_js, r_map_some, e_need_t]
  all_goals rfl
theorem e_laws_eqMark (n : Nat) (axQuestion : Int) (axAnswer : Int) (bxQuestion : Int) (bxAnswer : Int) : CP T (n + 1) 44 [.agg [.i .i64 axQuestion, .i .i64 axAnswer], .agg [.i .i64 bxQuestion, .i .i64 bxAnswer]] = (laws_eqMark (⟨axQuestion, axAnswer⟩ : Mark) (⟨bxQuestion, bxAnswer⟩ : Mark)).map fun r => .b r := by
  rw [CP_eq]
  simp -dsimp +contextual only [↓evA, evB, evT, tys, encs, Nat.reduceAdd, Nat.reduceMul, Nat.reduceBEq, Nat.reduceLeDiff, Nat.reduceLT, Try.func44, Try.f44, a44, TP, orc_p, orc_l, orc_a]
  try simp only [laws_eqMark, evT, encs, c_js, r_map_some, e_need_t]
  all_goals rfl
theorem e_laws_eqMarkS_l4 (n : Nat) {R1} {a : List Mark} {R2} {b : List Mark} (i : Int) [H1 : EncL cMark R1 a] [H2 : EncL cMark R2 b] : LP T (n + 2) 18 4 (frm [(0, .imm 2 R1), (1, .imm 2 R2), (5, .i .i64 i)]) [] =
    lmap (run (laws_eqMarkS_l4 a b) i) (fun (zr : Bool) => (XE.ret, frm [(4, .b zr)], [])) (fun (zr : Unit) => (XE.exit 0, frm [], [])) := by
  obtain ⟨rfl⟩ := H1
  obtain ⟨rfl⟩ := H2
  rw [LP_eq]
  simp -dsimp only [↓evA, evB, lpG_eq, Try.func18, Try.f18, a18, TP, Nat.reduceAdd, Nat.reduceMul, Nat.reduceBEq, Nat.reduceLeDiff, Nat.reduceLT]
  refine run_map (fun (zs : Int) => (frm [(0, .imm 2 (a.map cMark)), (1, .imm 2 (b.map cMark)), (5, .i .i64 zs)], [])) (evO (fun (zr : Bool) => (XE.ret, frm [(4, .b zr)], [])) (fun (zr : Unit) => (XE.exit 0, frm [], []))) ?_ i
  intro i
  simp -dsimp +contextual only [↓evA, evB, evT, tys, encs, Nat.reduceAdd, Nat.reduceMul, Nat.reduceBEq, Nat.reduceLeDiff, Nat.reduceLT, TP, orc_p, orc_l, orc_a, e_laws_eqMark]
  try simp only [laws_eqMarkS_l4, evT, encs, c_js, r_map_some, e_need_t]
  all_goals rfl
theorem e_laws_eqMarkS (n : Nat) {R1} {a : List Mark} {R2} {b : List Mark} [H1 : EncL cMark R1 a] [H2 : EncL cMark R2 b] : CP T (n + 3) 18 [.imm 2 R1, .imm 2 R2] = (laws_eqMarkS a b).map fun r => .b r := by
  obtain ⟨rfl⟩ := H1
  obtain ⟨rfl⟩ := H2
  rw [CP_eq]
  simp -dsimp +contextual only [↓evA, evB, evT, tys, encs, Nat.reduceAdd, Nat.reduceMul, Nat.reduceBEq, Nat.reduceLeDiff, Nat.reduceLT, Try.func18, Try.f18, a18, TP, orc_p, orc_l, orc_a, e_laws_eqMarkS_l4]
  try simp only [laws_eqMarkS, evT, encs, c_js, r_map_some, e_need_t]
  all_goals rfl
theorem e_laws_eqBid (n : Nat) (axWho : Int) (axCents : Int) (axSeal : Int) (bxWho : Int) (bxCents : Int) (bxSeal : Int) : CP T (n + 1) 122 [.agg [.i .i64 axWho, .i .i64 axCents, .i .i64 axSeal], .agg [.i .i64 bxWho, .i .i64 bxCents, .i .i64 bxSeal]] = (laws_eqBid (⟨axWho, axCents, axSeal⟩ : Bid) (⟨bxWho, bxCents, bxSeal⟩ : Bid)).map fun r => .b r := by
  rw [CP_eq]
  simp -dsimp +contextual only [↓evA, evB, evT, tys, encs, Nat.reduceAdd, Nat.reduceMul, Nat.reduceBEq, Nat.reduceLeDiff, Nat.reduceLT, Try.func122, Try.f122, a122, TP, orc_p, orc_l, orc_a]
  try simp only [laws_eqBid, evT, encs, c_js, r_map_some, e_need_t]
  all_goals rfl
theorem e_laws_eqBidS_l4 (n : Nat) {R1} {a : List Bid} {R2} {b : List Bid} (i : Int) [H1 : EncL cBid R1 a] [H2 : EncL cBid R2 b] : LP T (n + 2) 88 4 (frm [(0, .imm 3 R1), (1, .imm 3 R2), (5, .i .i64 i)]) [] =
    lmap (run (laws_eqBidS_l4 a b) i) (fun (zr : Bool) => (XE.ret, frm [(4, .b zr)], [])) (fun (zr : Unit) => (XE.exit 0, frm [], [])) := by
  obtain ⟨rfl⟩ := H1
  obtain ⟨rfl⟩ := H2
  rw [LP_eq]
  simp -dsimp only [↓evA, evB, lpG_eq, Try.func88, Try.f88, a88, TP, Nat.reduceAdd, Nat.reduceMul, Nat.reduceBEq, Nat.reduceLeDiff, Nat.reduceLT]
  refine run_map (fun (zs : Int) => (frm [(0, .imm 3 (a.map cBid)), (1, .imm 3 (b.map cBid)), (5, .i .i64 zs)], [])) (evO (fun (zr : Bool) => (XE.ret, frm [(4, .b zr)], [])) (fun (zr : Unit) => (XE.exit 0, frm [], []))) ?_ i
  intro i
  simp -dsimp +contextual only [↓evA, evB, evT, tys, encs, Nat.reduceAdd, Nat.reduceMul, Nat.reduceBEq, Nat.reduceLeDiff, Nat.reduceLT, TP, orc_p, orc_l, orc_a, e_laws_eqBid]
  try simp only [laws_eqBidS_l4, evT, encs, c_js, r_map_some, e_need_t]
  all_goals rfl
theorem e_laws_eqBidS (n : Nat) {R1} {a : List Bid} {R2} {b : List Bid} [H1 : EncL cBid R1 a] [H2 : EncL cBid R2 b] : CP T (n + 3) 88 [.imm 3 R1, .imm 3 R2] = (laws_eqBidS a b).map fun r => .b r := by
  obtain ⟨rfl⟩ := H1
  obtain ⟨rfl⟩ := H2
  rw [CP_eq]
  simp -dsimp +contextual only [↓evA, evB, evT, tys, encs, Nat.reduceAdd, Nat.reduceMul, Nat.reduceBEq, Nat.reduceLeDiff, Nat.reduceLT, Try.func88, Try.f88, a88, TP, orc_p, orc_l, orc_a, e_laws_eqBidS_l4]
  try simp only [laws_eqBidS, evT, encs, c_js, r_map_some, e_need_t]
  all_goals rfl
theorem e_laws_eqEvent (n : Nat) (axKind : Int) (axFindxThingxId : Int) (axFindxThingxKind : Int) (axFindxThingxColour : Int) (axFindxThingxSize : Int) (axFindxThingxWorth : Int) (axFindxPlace : Int) (axFindxAt : Int) (axFindxFinder : Int) {R1} {axMarks : List Mark} (axId : Int) (axWho : Int) (axN : Int) {R2} {axBids : List Bid} (bxKind : Int) (bxFindxThingxId : Int) (bxFindxThingxKind : Int) (bxFindxThingxColour : Int) (bxFindxThingxSize : Int) (bxFindxThingxWorth : Int) (bxFindxPlace : Int) (bxFindxAt : Int) (bxFindxFinder : Int) {R3} {bxMarks : List Mark} (bxId : Int) (bxWho : Int) (bxN : Int) {R4} {bxBids : List Bid} [H1 : EncL cMark R1 axMarks] [H2 : EncL cBid R2 axBids] [H3 : EncL cMark R3 bxMarks] [H4 : EncL cBid R4 bxBids] : CP T (n + 4) 42 [.agg [.i .i64 axKind, .i .i64 axFindxThingxId, .i .i64 axFindxThingxKind, .i .i64 axFindxThingxColour, .i .i64 axFindxThingxSize, .i .i64 axFindxThingxWorth, .i .i64 axFindxPlace, .i .i64 axFindxAt, .i .i64 axFindxFinder, .imm 2 R1, .i .i64 axId, .i .i64 axWho, .i .i64 axN, .imm 3 R2], .agg [.i .i64 bxKind, .i .i64 bxFindxThingxId, .i .i64 bxFindxThingxKind, .i .i64 bxFindxThingxColour, .i .i64 bxFindxThingxSize, .i .i64 bxFindxThingxWorth, .i .i64 bxFindxPlace, .i .i64 bxFindxAt, .i .i64 bxFindxFinder, .imm 2 R3, .i .i64 bxId, .i .i64 bxWho, .i .i64 bxN, .imm 3 R4]] = (laws_eqEvent (⟨axKind, ⟨⟨axFindxThingxId, axFindxThingxKind, axFindxThingxColour, axFindxThingxSize, axFindxThingxWorth⟩, axFindxPlace, axFindxAt, axFindxFinder⟩, axMarks, axId, axWho, axN, axBids⟩ : Event) (⟨bxKind, ⟨⟨bxFindxThingxId, bxFindxThingxKind, bxFindxThingxColour, bxFindxThingxSize, bxFindxThingxWorth⟩, bxFindxPlace, bxFindxAt, bxFindxFinder⟩, bxMarks, bxId, bxWho, bxN, bxBids⟩ : Event)).map fun r => .b r := by
  obtain ⟨rfl⟩ := H1
  obtain ⟨rfl⟩ := H2
  obtain ⟨rfl⟩ := H3
  obtain ⟨rfl⟩ := H4
  rw [CP_eq]
  simp -dsimp +contextual only [↓evA, evB, evT, tys, encs, Nat.reduceAdd, Nat.reduceMul, Nat.reduceBEq, Nat.reduceLeDiff, Nat.reduceLT, Try.func42, Try.f42, a42, TP, orc_p, orc_l, orc_a, e_laws_eqFind, e_laws_eqMarkS, e_laws_eqBidS]
  try simp only [laws_eqEvent, evT, encs, c_js, r_map_some, e_need_t]
  all_goals rfl
theorem e_laws_eqEventS_l4 (n : Nat) {R1} {a : List Event} {R2} {b : List Event} (i : Int) [H1 : EncL cEvent R1 a] [H2 : EncL cEvent R2 b] : LP T (n + 5) 16 4 (frm [(0, .imm 14 R1), (1, .imm 14 R2), (5, .i .i64 i)]) [] =
    lmap (run (laws_eqEventS_l4 a b) i) (fun (zr : Bool) => (XE.ret, frm [(4, .b zr)], [])) (fun (zr : Unit) => (XE.exit 0, frm [], [])) := by
  obtain ⟨rfl⟩ := H1
  obtain ⟨rfl⟩ := H2
  rw [LP_eq]
  simp -dsimp only [↓evA, evB, lpG_eq, Try.func16, Try.f16, a16, TP, Nat.reduceAdd, Nat.reduceMul, Nat.reduceBEq, Nat.reduceLeDiff, Nat.reduceLT]
  refine run_map (fun (zs : Int) => (frm [(0, .imm 14 (a.map cEvent)), (1, .imm 14 (b.map cEvent)), (5, .i .i64 zs)], [])) (evO (fun (zr : Bool) => (XE.ret, frm [(4, .b zr)], [])) (fun (zr : Unit) => (XE.exit 0, frm [], []))) ?_ i
  intro i
  simp -dsimp +contextual only [↓evA, evB, evT, tys, encs, Nat.reduceAdd, Nat.reduceMul, Nat.reduceBEq, Nat.reduceLeDiff, Nat.reduceLT, TP, orc_p, orc_l, orc_a, e_laws_eqEvent]
  try simp only [laws_eqEventS_l4, evT, encs, c_js, r_map_some, e_need_t]
  all_goals rfl
theorem e_laws_eqEventS (n : Nat) {R1} {a : List Event} {R2} {b : List Event} [H1 : EncL cEvent R1 a] [H2 : EncL cEvent R2 b] : CP T (n + 6) 16 [.imm 14 R1, .imm 14 R2] = (laws_eqEventS a b).map fun r => .b r := by
  obtain ⟨rfl⟩ := H1
  obtain ⟨rfl⟩ := H2
  rw [CP_eq]
  simp -dsimp +contextual only [↓evA, evB, evT, tys, encs, Nat.reduceAdd, Nat.reduceMul, Nat.reduceBEq, Nat.reduceLeDiff, Nat.reduceLT, Try.func16, Try.f16, a16, TP, orc_p, orc_l, orc_a, e_laws_eqEventS_l4]
  try simp only [laws_eqEventS, evT, encs, c_js, r_map_some, e_need_t]
  all_goals rfl
theorem e_laws_eqFindS_l4 (n : Nat) {R1} {a : List Find} {R2} {b : List Find} (i : Int) [H1 : EncL cFind R1 a] [H2 : EncL cFind R2 b] : LP T (n + 3) 17 4 (frm [(0, .imm 8 R1), (1, .imm 8 R2), (5, .i .i64 i)]) [] =
    lmap (run (laws_eqFindS_l4 a b) i) (fun (zr : Bool) => (XE.ret, frm [(4, .b zr)], [])) (fun (zr : Unit) => (XE.exit 0, frm [], [])) := by
  obtain ⟨rfl⟩ := H1
  obtain ⟨rfl⟩ := H2
  rw [LP_eq]
  simp -dsimp only [↓evA, evB, lpG_eq, Try.func17, Try.f17, a17, TP, Nat.reduceAdd, Nat.reduceMul, Nat.reduceBEq, Nat.reduceLeDiff, Nat.reduceLT]
  refine run_map (fun (zs : Int) => (frm [(0, .imm 8 (a.map cFind)), (1, .imm 8 (b.map cFind)), (5, .i .i64 zs)], [])) (evO (fun (zr : Bool) => (XE.ret, frm [(4, .b zr)], [])) (fun (zr : Unit) => (XE.exit 0, frm [], []))) ?_ i
  intro i
  simp -dsimp +contextual only [↓evA, evB, evT, tys, encs, Nat.reduceAdd, Nat.reduceMul, Nat.reduceBEq, Nat.reduceLeDiff, Nat.reduceLT, TP, orc_p, orc_l, orc_a, e_laws_eqFind]
  try simp only [laws_eqFindS_l4, evT, encs, c_js, r_map_some, e_need_t]
  all_goals rfl
theorem e_laws_eqFindS (n : Nat) {R1} {a : List Find} {R2} {b : List Find} [H1 : EncL cFind R1 a] [H2 : EncL cFind R2 b] : CP T (n + 4) 17 [.imm 8 R1, .imm 8 R2] = (laws_eqFindS a b).map fun r => .b r := by
  obtain ⟨rfl⟩ := H1
  obtain ⟨rfl⟩ := H2
  rw [CP_eq]
  simp -dsimp +contextual only [↓evA, evB, evT, tys, encs, Nat.reduceAdd, Nat.reduceMul, Nat.reduceBEq, Nat.reduceLeDiff, Nat.reduceLT, Try.func17, Try.f17, a17, TP, orc_p, orc_l, orc_a, e_laws_eqFindS_l4]
  try simp only [laws_eqFindS, evT, encs, c_js, r_map_some, e_need_t]
  all_goals rfl
theorem e_laws_markFindS_l2 (n : Nat) {R1} {a : List Find} (t1 : Int) (t5 : Int) [H1 : EncL cFind R1 a] : LP T (n + 1) 19 2 (frm [(0, .sl 0), (1, .i .i64 t1), (5, .i .i64 t5)]) [some (Ent.lst 8 R1)] =
    (run laws_markFindS_l2 (a, t1, t5)).map (fun (zr : (List Find) × Int) => (XE.exit 0, frm [(0, .sl 0), (1, .i .i64 zr.2)], [some (Ent.lst 8 (zr.1.map cFind))])) := by
  obtain ⟨rfl⟩ := H1
  rw [LP_eq]
  simp -dsimp only [↓evA, evB, lpG_eq, Try.func19, Try.f19, a19, TP, Nat.reduceAdd, Nat.reduceMul, Nat.reduceBEq, Nat.reduceLeDiff, Nat.reduceLT]
  refine run_map (fun (zs : (List Find) × Int × Int) => (frm [(0, .sl 0), (1, .i .i64 zs.2.1), (5, .i .i64 zs.2.2)], [some (Ent.lst 8 (zs.1.map cFind))])) (fun (zr : (List Find) × Int) => (XE.exit 0, frm [(0, .sl 0), (1, .i .i64 zr.2)], [some (Ent.lst 8 (zr.1.map cFind))])) ?_ (a, t1, t5)
  rintro ⟨a, t1, t5⟩
  simp -dsimp +contextual only [↓evA, evB, evT, tys, encs, Nat.reduceAdd, Nat.reduceMul, Nat.reduceBEq, Nat.reduceLeDiff, Nat.reduceLT, TP, orc_p, orc_l, orc_a]
  try simp only [laws_markFindS_l2, evT, encs, c_js, r_map_some, e_need_t]
  all_goals rfl
theorem e_laws_markFindS (n : Nat) {R1} {a : List Find} (a2 : Int) [H1 : EncL cFind R1 a] : CA T (n + 2) 19 [some (Ent.lst 8 R1)] [.sl 0, .i .i64 a2] = (laws_markFindS a a2).map fun r => (.i .i64 r.2, [some (Ent.lst 8 (r.1.map cFind))]) := by
  obtain ⟨rfl⟩ := H1
  rw [CA_eq]
  simp -dsimp +contextual only [↓evA, evB, evT, tys, encs, Nat.reduceAdd, Nat.reduceMul, Nat.reduceBEq, Nat.reduceLeDiff, Nat.reduceLT, Try.func19, Try.f19, a19, TP, orc_p, orc_l, orc_a, e_laws_markFindS_l2]
  try simp only [laws_markFindS, evT, encs, c_js, r_map_some, e_need_t]
  all_goals rfl
theorem e_laws_markMarkS_l2 (n : Nat) {R1} {a : List Mark} (k : Int) (i : Int) [H1 : EncL cMark R1 a] : LP T (n + 1) 20 2 (frm [(0, .sl 0), (1, .i .i64 k), (5, .i .i64 i)]) [some (Ent.lst 2 R1)] =
    (run laws_markMarkS_l2 (a, k, i)).map (fun (zr : (List Mark) × Int) => (XE.exit 0, frm [(0, .sl 0), (1, .i .i64 zr.2)], [some (Ent.lst 2 (zr.1.map cMark))])) := by
  obtain ⟨rfl⟩ := H1
  rw [LP_eq]
  simp -dsimp only [↓evA, evB, lpG_eq, Try.func20, Try.f20, a20, TP, Nat.reduceAdd, Nat.reduceMul, Nat.reduceBEq, Nat.reduceLeDiff, Nat.reduceLT]
  refine run_map (fun (zs : (List Mark) × Int × Int) => (frm [(0, .sl 0), (1, .i .i64 zs.2.1), (5, .i .i64 zs.2.2)], [some (Ent.lst 2 (zs.1.map cMark))])) (fun (zr : (List Mark) × Int) => (XE.exit 0, frm [(0, .sl 0), (1, .i .i64 zr.2)], [some (Ent.lst 2 (zr.1.map cMark))])) ?_ (a, k, i)
  rintro ⟨a, k, i⟩
  simp -dsimp +contextual only [↓evA, evB, evT, tys, encs, Nat.reduceAdd, Nat.reduceMul, Nat.reduceBEq, Nat.reduceLeDiff, Nat.reduceLT, TP, orc_p, orc_l, orc_a]
  try simp only [laws_markMarkS_l2, evT, encs, c_js, r_map_some, e_need_t]
  all_goals rfl
theorem e_laws_markMarkS (n : Nat) {R1} {a : List Mark} (k : Int) [H1 : EncL cMark R1 a] : CA T (n + 2) 20 [some (Ent.lst 2 R1)] [.sl 0, .i .i64 k] = (laws_markMarkS a k).map fun r => (.i .i64 r.2, [some (Ent.lst 2 (r.1.map cMark))]) := by
  obtain ⟨rfl⟩ := H1
  rw [CA_eq]
  simp -dsimp +contextual only [↓evA, evB, evT, tys, encs, Nat.reduceAdd, Nat.reduceMul, Nat.reduceBEq, Nat.reduceLeDiff, Nat.reduceLT, Try.func20, Try.f20, a20, TP, orc_p, orc_l, orc_a, e_laws_markMarkS_l2]
  try simp only [laws_markMarkS, evT, encs, c_js, r_map_some, e_need_t]
  all_goals rfl
theorem e_laws_markBidS_l2 (n : Nat) {R1} {a : List Bid} (k : Int) (i : Int) [H1 : EncL cBid R1 a] : LP T (n + 1) 45 2 (frm [(0, .sl 0), (1, .i .i64 k), (5, .i .i64 i)]) [some (Ent.lst 3 R1)] =
    (run laws_markBidS_l2 (a, k, i)).map (fun (zr : (List Bid) × Int) => (XE.exit 0, frm [(0, .sl 0), (1, .i .i64 zr.2)], [some (Ent.lst 3 (zr.1.map cBid))])) := by
  obtain ⟨rfl⟩ := H1
  rw [LP_eq]
  simp -dsimp only [↓evA, evB, lpG_eq, Try.func45, Try.f45, a45, TP, Nat.reduceAdd, Nat.reduceMul, Nat.reduceBEq, Nat.reduceLeDiff, Nat.reduceLT]
  refine run_map (fun (zs : (List Bid) × Int × Int) => (frm [(0, .sl 0), (1, .i .i64 zs.2.1), (5, .i .i64 zs.2.2)], [some (Ent.lst 3 (zs.1.map cBid))])) (fun (zr : (List Bid) × Int) => (XE.exit 0, frm [(0, .sl 0), (1, .i .i64 zr.2)], [some (Ent.lst 3 (zr.1.map cBid))])) ?_ (a, k, i)
  rintro ⟨a, k, i⟩
  simp -dsimp +contextual only [↓evA, evB, evT, tys, encs, Nat.reduceAdd, Nat.reduceMul, Nat.reduceBEq, Nat.reduceLeDiff, Nat.reduceLT, TP, orc_p, orc_l, orc_a]
  try simp only [laws_markBidS_l2, evT, encs, c_js, r_map_some, e_need_t]
  all_goals rfl
theorem e_laws_markBidS (n : Nat) {R1} {a : List Bid} (k : Int) [H1 : EncL cBid R1 a] : CA T (n + 2) 45 [some (Ent.lst 3 R1)] [.sl 0, .i .i64 k] = (laws_markBidS a k).map fun r => (.i .i64 r.2, [some (Ent.lst 3 (r.1.map cBid))]) := by
  obtain ⟨rfl⟩ := H1
  rw [CA_eq]
  simp -dsimp +contextual only [↓evA, evB, evT, tys, encs, Nat.reduceAdd, Nat.reduceMul, Nat.reduceBEq, Nat.reduceLeDiff, Nat.reduceLT, Try.func45, Try.f45, a45, TP, orc_p, orc_l, orc_a, e_laws_markBidS_l2]
  try simp only [laws_markBidS, evT, encs, c_js, r_map_some, e_need_t]
  all_goals rfl
theorem e_laws_markEventS_l2 (n : Nat) {R1} {a : List Event} (t1 : Int) (t5 : Int) [H1 : EncL cEventO R1 a] : LP T (n + 3) 21 2 (frm [(0, .sl 0), (1, .i .i64 t1), (5, .i .i64 t5)]) [some (Ent.lst 14 R1)] =
    (run laws_markEventS_l2 (a, t1, t5)).map (fun (zr : (List Event) × Int) => (XE.exit 0, frm [(0, .sl 0), (1, .i .i64 zr.2)], [some (Ent.lst 14 (zr.1.map cEventO))])) := by
  obtain ⟨rfl⟩ := H1
  rw [LP_eq]
  simp -dsimp only [↓evA, evB, lpG_eq, Try.func21, Try.f21, a21, TP, Nat.reduceAdd, Nat.reduceMul, Nat.reduceBEq, Nat.reduceLeDiff, Nat.reduceLT]
  refine run_map (fun (zs : (List Event) × Int × Int) => (frm [(0, .sl 0), (1, .i .i64 zs.2.1), (5, .i .i64 zs.2.2)], [some (Ent.lst 14 (zs.1.map cEventO))])) (fun (zr : (List Event) × Int) => (XE.exit 0, frm [(0, .sl 0), (1, .i .i64 zr.2)], [some (Ent.lst 14 (zr.1.map cEventO))])) ?_ (a, t1, t5)
  rintro ⟨a, t1, t5⟩
  simp -dsimp +contextual only [↓evA, evB, evT, tys, encs, Nat.reduceAdd, Nat.reduceMul, Nat.reduceBEq, Nat.reduceLeDiff, Nat.reduceLT, TP, orc_p, orc_l, orc_a, srt, e_laws_markMarkS, e_laws_markBidS]
  try simp only [laws_markEventS_l2, evT, encs, c_js, r_map_some, e_need_t]
  all_goals rfl
theorem e_laws_markEventS (n : Nat) {R1} {a : List Event} (a2 : Int) [H1 : EncL cEventO R1 a] : CA T (n + 4) 21 [some (Ent.lst 14 R1)] [.sl 0, .i .i64 a2] = (laws_markEventS a a2).map fun r => (.i .i64 r.2, [some (Ent.lst 14 (r.1.map cEventO))]) := by
  obtain ⟨rfl⟩ := H1
  rw [CA_eq]
  simp -dsimp +contextual only [↓evA, evB, evT, tys, encs, Nat.reduceAdd, Nat.reduceMul, Nat.reduceBEq, Nat.reduceLeDiff, Nat.reduceLT, Try.func21, Try.f21, a21, TP, orc_p, orc_l, orc_a, e_laws_markEventS_l2]
  try simp only [laws_markEventS, evT, encs, c_js, r_map_some, e_need_t]
  all_goals rfl
theorem e_laws_heldMarkS_l2 (n : Nat) {R1} {a : List Mark} (k : Int) (i : Int) [H1 : EncL cMark R1 a] : LP T (n + 1) 46 2 (frm [(0, .imm 2 R1), (1, .i .i64 k), (5, .i .i64 i)]) [] =
    lmap (run (laws_heldMarkS_l2 a) (k, i)) (fun (zr : Int) => (XE.ret, frm [(4, .i .i64 zr)], [])) (fun (zr : Int) => (XE.exit 0, frm [(1, .i .i64 zr)], [])) := by
  obtain ⟨rfl⟩ := H1
  rw [LP_eq]
  simp -dsimp only [↓evA, evB, lpG_eq, Try.func46, Try.f46, a46, TP, Nat.reduceAdd, Nat.reduceMul, Nat.reduceBEq, Nat.reduceLeDiff, Nat.reduceLT]
  refine run_map (fun (zs : Int × Int) => (frm [(0, .imm 2 (a.map cMark)), (1, .i .i64 zs.1), (5, .i .i64 zs.2)], [])) (evO (fun (zr : Int) => (XE.ret, frm [(4, .i .i64 zr)], [])) (fun (zr : Int) => (XE.exit 0, frm [(1, .i .i64 zr)], []))) ?_ (k, i)
  rintro ⟨k, i⟩
  simp -dsimp +contextual only [↓evA, evB, evT, tys, encs, Nat.reduceAdd, Nat.reduceMul, Nat.reduceBEq, Nat.reduceLeDiff, Nat.reduceLT, TP, orc_p, orc_l, orc_a]
  try simp only [laws_heldMarkS_l2, evT, encs, c_js, r_map_some, e_need_t]
  all_goals rfl
theorem e_laws_heldMarkS (n : Nat) {R1} {a : List Mark} (k : Int) [H1 : EncL cMark R1 a] : CP T (n + 2) 46 [.imm 2 R1, .i .i64 k] = (laws_heldMarkS a k).map fun r => .i .i64 r := by
  obtain ⟨rfl⟩ := H1
  rw [CP_eq]
  simp -dsimp +contextual only [↓evA, evB, evT, tys, encs, Nat.reduceAdd, Nat.reduceMul, Nat.reduceBEq, Nat.reduceLeDiff, Nat.reduceLT, Try.func46, Try.f46, a46, TP, orc_p, orc_l, orc_a, e_laws_heldMarkS_l2]
  try simp only [laws_heldMarkS, evT, encs, c_js, r_map_some, e_need_t]
  all_goals rfl
theorem e_laws_heldBidS_l2 (n : Nat) {R1} {a : List Bid} (k : Int) (i : Int) [H1 : EncL cBid R1 a] : LP T (n + 1) 47 2 (frm [(0, .imm 3 R1), (1, .i .i64 k), (5, .i .i64 i)]) [] =
    lmap (run (laws_heldBidS_l2 a) (k, i)) (fun (zr : Int) => (XE.ret, frm [(4, .i .i64 zr)], [])) (fun (zr : Int) => (XE.exit 0, frm [(1, .i .i64 zr)], [])) := by
  obtain ⟨rfl⟩ := H1
  rw [LP_eq]
  simp -dsimp only [↓evA, evB, lpG_eq, Try.func47, Try.f47, a47, TP, Nat.reduceAdd, Nat.reduceMul, Nat.reduceBEq, Nat.reduceLeDiff, Nat.reduceLT]
  refine run_map (fun (zs : Int × Int) => (frm [(0, .imm 3 (a.map cBid)), (1, .i .i64 zs.1), (5, .i .i64 zs.2)], [])) (evO (fun (zr : Int) => (XE.ret, frm [(4, .i .i64 zr)], [])) (fun (zr : Int) => (XE.exit 0, frm [(1, .i .i64 zr)], []))) ?_ (k, i)
  rintro ⟨k, i⟩
  simp -dsimp +contextual only [↓evA, evB, evT, tys, encs, Nat.reduceAdd, Nat.reduceMul, Nat.reduceBEq, Nat.reduceLeDiff, Nat.reduceLT, TP, orc_p, orc_l, orc_a]
  try simp only [laws_heldBidS_l2, evT, encs, c_js, r_map_some, e_need_t]
  all_goals rfl
theorem e_laws_heldBidS (n : Nat) {R1} {a : List Bid} (k : Int) [H1 : EncL cBid R1 a] : CP T (n + 2) 47 [.imm 3 R1, .i .i64 k] = (laws_heldBidS a k).map fun r => .i .i64 r := by
  obtain ⟨rfl⟩ := H1
  rw [CP_eq]
  simp -dsimp +contextual only [↓evA, evB, evT, tys, encs, Nat.reduceAdd, Nat.reduceMul, Nat.reduceBEq, Nat.reduceLeDiff, Nat.reduceLT, Try.func47, Try.f47, a47, TP, orc_p, orc_l, orc_a, e_laws_heldBidS_l2]
  try simp only [laws_heldBidS, evT, encs, c_js, r_map_some, e_need_t]
  all_goals rfl
theorem e_laws_heldEventS_l2 (n : Nat) {R1} {a : List Event} (t1 : Int) (t5 : Int) [H1 : EncL cEvent R1 a] : LP T (n + 3) 22 2 (frm [(0, .imm 14 R1), (1, .i .i64 t1), (5, .i .i64 t5)]) [] =
    lmap (run (laws_heldEventS_l2 a) (t1, t5)) (fun (zr : Int) => (XE.ret, frm [(4, .i .i64 zr)], [])) (fun (zr : Int) => (XE.exit 0, frm [(1, .i .i64 zr)], [])) := by
  obtain ⟨rfl⟩ := H1
  rw [LP_eq]
  simp -dsimp only [↓evA, evB, lpG_eq, Try.func22, Try.f22, a22, TP, Nat.reduceAdd, Nat.reduceMul, Nat.reduceBEq, Nat.reduceLeDiff, Nat.reduceLT]
  refine run_map (fun (zs : Int × Int) => (frm [(0, .imm 14 (a.map cEvent)), (1, .i .i64 zs.1), (5, .i .i64 zs.2)], [])) (evO (fun (zr : Int) => (XE.ret, frm [(4, .i .i64 zr)], [])) (fun (zr : Int) => (XE.exit 0, frm [(1, .i .i64 zr)], []))) ?_ (t1, t5)
  rintro ⟨t1, t5⟩
  simp -dsimp +contextual only [↓evA, evB, evT, tys, encs, Nat.reduceAdd, Nat.reduceMul, Nat.reduceBEq, Nat.reduceLeDiff, Nat.reduceLT, TP, orc_p, orc_l, orc_a, e_laws_heldMarkS, e_laws_heldBidS]
  try simp only [laws_heldEventS_l2, evT, encs, c_js, r_map_some, e_need_t]
  all_goals rfl
theorem e_laws_heldEventS (n : Nat) {R1} {a : List Event} (a2 : Int) [H1 : EncL cEvent R1 a] : CP T (n + 4) 22 [.imm 14 R1, .i .i64 a2] = (laws_heldEventS a a2).map fun r => .i .i64 r := by
  obtain ⟨rfl⟩ := H1
  rw [CP_eq]
  simp -dsimp +contextual only [↓evA, evB, evT, tys, encs, Nat.reduceAdd, Nat.reduceMul, Nat.reduceBEq, Nat.reduceLeDiff, Nat.reduceLT, Try.func22, Try.f22, a22, TP, orc_p, orc_l, orc_a, e_laws_heldEventS_l2]
  try simp only [laws_heldEventS, evT, encs, c_js, r_map_some, e_need_t]
  all_goals rfl
theorem e_laws_FnExactFindAll (n : Nat) {R1} {aL : List Find} {R2} {a : List Mark} [H1 : EncL cFind R1 aL] [H2 : EncL cMark R2 a] : CP T (n + 7) 3 [.imm 8 R1, .imm 2 R2] = (laws_FnExactFindAll aL a).map fun r => .b r := by
  obtain ⟨rfl⟩ := H1
  obtain ⟨rfl⟩ := H2
  rw [CP_eq]
  simp -dsimp +contextual only [↓evA, evB, evT, tys, encs, Nat.reduceAdd, Nat.reduceMul, Nat.reduceBEq, Nat.reduceLeDiff, Nat.reduceLT, Try.func3, Try.f3, a3, TP, orc_p, orc_l, orc_a, srt, e_laws_szFindS, e_laws_szMarkS, e_laws_toFindS, e_laws_toMarkS, e_spec_FindAll, e_impl_FindAll, e_laws_eqEventS, e_laws_eqFindS, e_laws_eqMarkS, e_laws_markFindS, e_laws_markMarkS, e_laws_markEventS, e_laws_heldEventS]
  try simp only [laws_FnExactFindAll, evT, encs, c_js, r_map_some, e_need_t]
  all_goals rfl
end Go.Proofs.Ytcpelionmmnogaa
