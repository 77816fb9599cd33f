/- The functions of the program come to the typed ones. No condition. -/
import Derived.Test.YtomlnigcnkjelaaEc
namespace Go.Proofs.Ytomlnigcnkjelaa
open Go Go.Proofs Go.Proofs.Ytomlnigcnkjelaa.Am
set_option linter.unusedVariables false
set_option linter.unusedSimpArgs false
set_option linter.defProp false
set_option maxRecDepth 100000
theorem e_laws_szHandS (n : Nat) {R1} {a : List Hand} (left : Int) [H1 : EncL cHand R1 a] : CP T (n + 1) 9 [.imm 5 R1, .i .i64 left] = (laws_szHandS a left).map fun r => .i .i64 r := by
  obtain ⟨rfl⟩ := H1
  rw [CP_eq]
  simp -dsimp +contextual only [↓evA, evB, evT, tys, encs, Nat.reduceAdd, Nat.reduceMul, Nat.reduceBEq, Nat.reduceLeDiff, Nat.reduceLT, Try.func9, Try.f9, a9, TP, orc_p, orc_l]
  try simp only [laws_szHandS, evT, encs, c_js, r_map_some, e_need_t]
  all_goals rfl
theorem e_laws_toHand (n : Nat) (axThing : Int) (axHolder : Int) (axWho : Int) (axAt : Int) (axSeal : Int) : CP T (n + 1) 32 [.agg [.i .i64 axThing, .i .i64 axHolder, .i .i64 axWho, .i .i64 axAt, .i .i64 axSeal]] = (laws_toHand (⟨axThing, axHolder, axWho, axAt, axSeal⟩ : Hand)).map fun r => .agg (cHand r) := by
  rw [CP_eq]
  simp -dsimp +contextual only [↓evA, evB, evT, tys, encs, Nat.reduceAdd, Nat.reduceMul, Nat.reduceBEq, Nat.reduceLeDiff, Nat.reduceLT, Try.func32, Try.f32, a32, TP, orc_p, orc_l]
  try simp only [laws_toHand, evT, encs, c_js, r_map_some, e_need_t]
  all_goals rfl
theorem e_laws_toHandS_l3 (n : Nat) {R1} {a : List Hand} {R2} {out : List Hand} (i : Int) [H1 : EncL cHand R1 a] [H2 : EncL cHand R2 out] : LP T (n + 2) 11 3 (frm [(0, .imm 5 R1), (3, .sl 0), (4, .i .i64 i)]) [some (Ent.lst 5 R2)] =
    (run (laws_toHandS_l3 a) (out, i)).map (fun (r : (List Hand)) => (XE.exit 0, frm [(3, .sl 0)], [some (Ent.lst 5 (r.map cHand))])) := by
  obtain ⟨rfl⟩ := H1
  obtain ⟨rfl⟩ := H2
  rw [LP_eq]
  simp -dsimp only [↓evA, evB, lpG_eq, Try.func11, Try.f11, a11, TP, Nat.reduceAdd, Nat.reduceMul, Nat.reduceBEq, Nat.reduceLeDiff, Nat.reduceLT]
  refine run_map (fun (s : (List Hand) × Int) => (frm [(0, .imm 5 (a.map cHand)), (3, .sl 0), (4, .i .i64 s.2)], [some (Ent.lst 5 (s.1.map cHand))])) (fun (r : (List Hand)) => (XE.exit 0, frm [(3, .sl 0)], [some (Ent.lst 5 (r.map cHand))])) ?_ (out, i)
  rintro ⟨out, i⟩
  simp -dsimp +contextual only [↓evA, evB, evT, tys, encs, Nat.reduceAdd, Nat.reduceMul, Nat.reduceBEq, Nat.reduceLeDiff, Nat.reduceLT, TP, orc_p, orc_l, e_laws_toHand]
  try simp only [laws_toHandS_l3, evT, encs, c_js, r_map_some, e_need_t]
  all_goals rfl
theorem e_laws_toHandS (n : Nat) {R1} {a : List Hand} [H1 : EncL cHand R1 a] : CP T (n + 3) 11 [.imm 5 R1] = (laws_toHandS a).map fun r => .own 5 (r.map cHand) := by
  obtain ⟨rfl⟩ := H1
  rw [CP_eq]
  simp -dsimp +contextual only [↓evA, evB, evT, tys, encs, Nat.reduceAdd, Nat.reduceMul, Nat.reduceBEq, Nat.reduceLeDiff, Nat.reduceLT, Try.func11, Try.f11, a11, TP, orc_p, orc_l, e_laws_toHandS_l3]
  try simp only [laws_toHandS, evT, encs, c_js, r_map_some, e_need_t]
  all_goals rfl
theorem e_spec_HandsOf_l3 (n : Nat) {R1} {l : List Hand} (thing : Int) {R2} {out : List Hand} (i : Int) [H1 : EncL cHand R1 l] [H2 : EncL cHand R2 out] : LP T (n + 1) 30 3 (frm [(0, .imm 5 R1), (1, .i .i64 thing), (5, .sl 0), (6, .i .i64 i)]) [some (Ent.lst 5 R2)] =
    (run (spec_HandsOf_l3 l thing) (out, i)).map (fun (r : (List Hand)) => (XE.exit 0, frm [(5, .sl 0)], [some (Ent.lst 5 (r.map cHand))])) := by
  obtain ⟨rfl⟩ := H1
  obtain ⟨rfl⟩ := H2
  rw [LP_eq]
  simp -dsimp only [↓evA, evB, lpG_eq, Try.func30, Try.f30, a30, TP, Nat.reduceAdd, Nat.reduceMul, Nat.reduceBEq, Nat.reduceLeDiff, Nat.reduceLT]
  refine run_map (fun (s : (List Hand) × Int) => (frm [(0, .imm 5 (l.map cHand)), (1, .i .i64 thing), (5, .sl 0), (6, .i .i64 s.2)], [some (Ent.lst 5 (s.1.map cHand))])) (fun (r : (List Hand)) => (XE.exit 0, frm [(5, .sl 0)], [some (Ent.lst 5 (r.map cHand))])) ?_ (out, i)
  rintro ⟨out, i⟩
  simp -dsimp +contextual only [↓evA, evB, evT, tys, encs, Nat.reduceAdd, Nat.reduceMul, Nat.reduceBEq, Nat.reduceLeDiff, Nat.reduceLT, TP, orc_p, orc_l]
  try simp only [spec_HandsOf_l3, evT, encs, c_js, r_map_some, e_need_t]
  all_goals rfl
theorem e_spec_HandsOf (n : Nat) {R1} {l : List Hand} (thing : Int) [H1 : EncL cHand R1 l] : CP T (n + 2) 30 [.imm 5 R1, .i .i64 thing] = (spec_HandsOf l thing).map fun r => .own 5 (r.map cHand) := by
  obtain ⟨rfl⟩ := H1
  rw [CP_eq]
  simp -dsimp +contextual only [↓evA, evB, evT, tys, encs, Nat.reduceAdd, Nat.reduceMul, Nat.reduceBEq, Nat.reduceLeDiff, Nat.reduceLT, Try.func30, Try.f30, a30, TP, orc_p, orc_l, e_spec_HandsOf_l3]
  try simp only [spec_HandsOf, evT, encs, c_js, r_map_some, e_need_t]
  all_goals rfl
theorem e_spec_l1In (n : Nat) (x : Int) (least : Int) (most : Int) : CP T (n + 1) 45 [.i .i64 x, .i .i64 least, .i .i64 most] = (spec_l1In x least most).map fun r => .b r := by
  rw [CP_eq]
  simp -dsimp +contextual only [↓evA, evB, evT, tys, encs, Nat.reduceAdd, Nat.reduceMul, Nat.reduceBEq, Nat.reduceLeDiff, Nat.reduceLT, Try.func45, Try.f45, a45, TP, orc_p, orc_l]
  try simp only [spec_l1In, evT, encs, c_js, r_map_some, e_need_t]
  all_goals rfl
theorem e_spec_HolderText (n : Nat) (holder : Int) : CP T (n + 2) 31 [.i .i64 holder] = (spec_HolderText holder).map fun r => .s r := by
  rw [CP_eq]
  simp -dsimp +contextual only [↓evA, evB, evT, tys, encs, Nat.reduceAdd, Nat.reduceMul, Nat.reduceBEq, Nat.reduceLeDiff, Nat.reduceLT, Try.func31, Try.f31, a31, TP, orc_p, orc_l, e_spec_l1In]
  try simp only [spec_HolderText, evT, encs, c_js, r_map_some, e_need_t]
  all_goals rfl
theorem e_spec_EndOf (n : Nat) {R1} {l : List Hand} (thing : Int) [H1 : EncL cHand R1 l] : CP T (n + 3) 10 [.imm 5 R1, .i .i64 thing] = (spec_EndOf l thing).map fun r => .s r := by
  obtain ⟨rfl⟩ := H1
  rw [CP_eq]
  simp -dsimp +contextual only [↓evA, evB, evT, tys, encs, Nat.reduceAdd, Nat.reduceMul, Nat.reduceBEq, Nat.reduceLeDiff, Nat.reduceLT, Try.func10, Try.f10, a10, TP, orc_p, orc_l, e_spec_HandsOf, e_spec_HolderText]
  try simp only [spec_EndOf, evT, encs, c_js, r_map_some, e_need_t]
  all_goals rfl
theorem e_impl_lastHand_l2 (n : Nat) {R1} {l : List Hand} (thing : Int) (i : Int) [H1 : EncL cHand R1 l] : LP T (n + 1) 33 2 (frm [(0, .imm 5 R1), (1, .i .i64 thing), (5, .i .i64 i)]) [] =
    lmap (run (impl_lastHand_l2 l thing) i) (fun (r : Int) => (XE.ret, frm [(4, .i .i64 r)], [])) (fun (r : Unit) => (XE.exit 0, frm [], [])) := by
  obtain ⟨rfl⟩ := H1
  rw [LP_eq]
  simp -dsimp only [↓evA, evB, lpG_eq, Try.func33, Try.f33, a33, TP, Nat.reduceAdd, Nat.reduceMul, Nat.reduceBEq, Nat.reduceLeDiff, Nat.reduceLT]
  refine run_map (fun (s : Int) => (frm [(0, .imm 5 (l.map cHand)), (1, .i .i64 thing), (5, .i .i64 s)], [])) (evO (fun (r : Int) => (XE.ret, frm [(4, .i .i64 r)], [])) (fun (r : Unit) => (XE.exit 0, frm [], []))) ?_ i
  intro i
  simp -dsimp +contextual only [↓evA, evB, evT, tys, encs, Nat.reduceAdd, Nat.reduceMul, Nat.reduceBEq, Nat.reduceLeDiff, Nat.reduceLT, TP, orc_p, orc_l]
  try simp only [impl_lastHand_l2, evT, encs, c_js, r_map_some, e_need_t]
  all_goals rfl
theorem e_impl_lastHand (n : Nat) {R1} {l : List Hand} (thing : Int) [H1 : EncL cHand R1 l] : CP T (n + 2) 33 [.imm 5 R1, .i .i64 thing] = (impl_lastHand l thing).map fun r => .i .i64 r := by
  obtain ⟨rfl⟩ := H1
  rw [CP_eq]
  simp -dsimp +contextual only [↓evA, evB, evT, tys, encs, Nat.reduceAdd, Nat.reduceMul, Nat.reduceBEq, Nat.reduceLeDiff, Nat.reduceLT, Try.func33, Try.f33, a33, TP, orc_p, orc_l, e_impl_lastHand_l2]
  try simp only [impl_lastHand, evT, encs, c_js, r_map_some, e_need_t]
  all_goals rfl
theorem e_impl_InRange (n : Nat) (vn : Int) (low : Int) (high : Int) : CP T (n + 1) 47 [.i .i64 vn, .i .i64 low, .i .i64 high] = (impl_InRange vn low high).map fun r => .b r := by
  rw [CP_eq]
  simp -dsimp +contextual only [↓evA, evB, evT, tys, encs, Nat.reduceAdd, Nat.reduceMul, Nat.reduceBEq, Nat.reduceLeDiff, Nat.reduceLT, Try.func47, Try.f47, a47, TP, orc_p, orc_l]
  try simp only [impl_InRange, evT, encs, c_js, r_map_some, e_need_t]
  all_goals rfl
theorem e_impl_HolderText (n : Nat) (holder : Int) : CP T (n + 2) 34 [.i .i64 holder] = (impl_HolderText holder).map fun r => .s r := by
  rw [CP_eq]
  simp -dsimp +contextual only [↓evA, evB, evT, tys, encs, Nat.reduceAdd, Nat.reduceMul, Nat.reduceBEq, Nat.reduceLeDiff, Nat.reduceLT, Try.func34, Try.f34, a34, TP, orc_p, orc_l, e_impl_InRange]
  try simp only [impl_HolderText, evT, encs, c_js, r_map_some, e_need_t]
  all_goals rfl
theorem e_impl_EndOf (n : Nat) {R1} {l : List Hand} (thing : Int) [H1 : EncL cHand R1 l] : CP T (n + 3) 12 [.imm 5 R1, .i .i64 thing] = (impl_EndOf l thing).map fun r => .s r := by
  obtain ⟨rfl⟩ := H1
  rw [CP_eq]
  simp -dsimp +contextual only [↓evA, evB, evT, tys, encs, Nat.reduceAdd, Nat.reduceMul, Nat.reduceBEq, Nat.reduceLeDiff, Nat.reduceLT, Try.func12, Try.f12, a12, TP, orc_p, orc_l, e_impl_lastHand, e_impl_HolderText]
  try simp only [impl_EndOf, evT, encs, c_js, r_map_some, e_need_t]
  all_goals rfl
theorem e_laws_eqHand (n : Nat) (axThing : Int) (axHolder : Int) (axWho : Int) (axAt : Int) (axSeal : Int) (bxThing : Int) (bxHolder : Int) (bxWho : Int) (bxAt : Int) (bxSeal : Int) : CP T (n + 1) 35 [.agg [.i .i64 axThing, .i .i64 axHolder, .i .i64 axWho, .i .i64 axAt, .i .i64 axSeal], .agg [.i .i64 bxThing, .i .i64 bxHolder, .i .i64 bxWho, .i .i64 bxAt, .i .i64 bxSeal]] = (laws_eqHand (⟨axThing, axHolder, axWho, axAt, axSeal⟩ : Hand) (⟨bxThing, bxHolder, bxWho, bxAt, bxSeal⟩ : Hand)).map fun r => .b r := by
  rw [CP_eq]
  simp -dsimp +contextual only [↓evA, evB, evT, tys, encs, Nat.reduceAdd, Nat.reduceMul, Nat.reduceBEq, Nat.reduceLeDiff, Nat.reduceLT, Try.func35, Try.f35, a35, TP, orc_p, orc_l]
  try simp only [laws_eqHand, evT, encs, c_js, r_map_some, e_need_t]
  all_goals rfl
theorem e_laws_eqHandS_l4 (n : Nat) {R1} {a : List Hand} {R2} {b : List Hand} (i : Int) [H1 : EncL cHand R1 a] [H2 : EncL cHand R2 b] : LP T (n + 2) 13 4 (frm [(0, .imm 5 R1), (1, .imm 5 R2), (5, .i .i64 i)]) [] =
    lmap (run (laws_eqHandS_l4 a b) i) (fun (r : Bool) => (XE.ret, frm [(4, .b r)], [])) (fun (r : Unit) => (XE.exit 0, frm [], [])) := by
  obtain ⟨rfl⟩ := H1
  obtain ⟨rfl⟩ := H2
  rw [LP_eq]
  simp -dsimp only [↓evA, evB, lpG_eq, Try.func13, Try.f13, a13, TP, Nat.reduceAdd, Nat.reduceMul, Nat.reduceBEq, Nat.reduceLeDiff, Nat.reduceLT]
  refine run_map (fun (s : Int) => (frm [(0, .imm 5 (a.map cHand)), (1, .imm 5 (b.map cHand)), (5, .i .i64 s)], [])) (evO (fun (r : Bool) => (XE.ret, frm [(4, .b r)], [])) (fun (r : Unit) => (XE.exit 0, frm [], []))) ?_ i
  intro i
  simp -dsimp +contextual only [↓evA, evB, evT, tys, encs, Nat.reduceAdd, Nat.reduceMul, Nat.reduceBEq, Nat.reduceLeDiff, Nat.reduceLT, TP, orc_p, orc_l, e_laws_eqHand]
  try simp only [laws_eqHandS_l4, evT, encs, c_js, r_map_some, e_need_t]
  all_goals rfl
theorem e_laws_eqHandS (n : Nat) {R1} {a : List Hand} {R2} {b : List Hand} [H1 : EncL cHand R1 a] [H2 : EncL cHand R2 b] : CP T (n + 3) 13 [.imm 5 R1, .imm 5 R2] = (laws_eqHandS a b).map fun r => .b r := by
  obtain ⟨rfl⟩ := H1
  obtain ⟨rfl⟩ := H2
  rw [CP_eq]
  simp -dsimp +contextual only [↓evA, evB, evT, tys, encs, Nat.reduceAdd, Nat.reduceMul, Nat.reduceBEq, Nat.reduceLeDiff, Nat.reduceLT, Try.func13, Try.f13, a13, TP, orc_p, orc_l, e_laws_eqHandS_l4]
  try simp only [laws_eqHandS, evT, encs, c_js, r_map_some, e_need_t]
  all_goals rfl
theorem e_laws_FnExactEndOf (n : Nat) {R1} {aL : List Hand} (aThing : Int) [H1 : EncL cHand R1 aL] : CP T (n + 4) 3 [.imm 5 R1, .i .i64 aThing] = (laws_FnExactEndOf aL aThing).map fun r => .b r := by
  obtain ⟨rfl⟩ := H1
  rw [CP_eq]
  simp -dsimp +contextual only [↓evA, evB, evT, tys, encs, Nat.reduceAdd, Nat.reduceMul, Nat.reduceBEq, Nat.reduceLeDiff, Nat.reduceLT, Try.func3, Try.f3, a3, TP, orc_p, orc_l, e_laws_szHandS, e_laws_toHandS, e_spec_EndOf, e_impl_EndOf, e_laws_eqHandS]
  try simp only [laws_FnExactEndOf, evT, encs, c_js, r_map_some, e_need_t]
  all_goals rfl
theorem e_laws_szFindS (n : Nat) {R1} {a : List Find} (left : Int) [H1 : EncL cFind R1 a] : CP T (n + 1) 14 [.imm 8 R1, .i .i64 left] = (laws_szFindS a left).map fun r => .i .i64 r := by
  obtain ⟨rfl⟩ := H1
  rw [CP_eq]
  simp -dsimp +contextual only [↓evA, evB, evT, tys, encs, Nat.reduceAdd, Nat.reduceMul, Nat.reduceBEq, Nat.reduceLeDiff, Nat.reduceLT, Try.func14, Try.f14, a14, TP, orc_p, orc_l]
  try simp only [laws_szFindS, evT, encs, c_js, r_map_some, e_need_t]
  all_goals rfl
theorem e_laws_toThing (n : Nat) (axId : Int) (axKind : Int) (axColour : Int) (axSize : Int) (axWorth : Int) : CP T (n + 1) 52 [.agg [.i .i64 axId, .i .i64 axKind, .i .i64 axColour, .i .i64 axSize, .i .i64 axWorth]] = (laws_toThing (⟨axId, axKind, axColour, axSize, axWorth⟩ : Thing)).map fun r => .agg (cThing r) := by
  rw [CP_eq]
  simp -dsimp +contextual only [↓evA, evB, evT, tys, encs, Nat.reduceAdd, Nat.reduceMul, Nat.reduceBEq, Nat.reduceLeDiff, Nat.reduceLT, Try.func52, Try.f52, a52, TP, orc_p, orc_l]
  try simp only [laws_toThing, evT, encs, c_js, r_map_some, e_need_t]
  all_goals rfl
theorem e_laws_toFind (n : Nat) (axThingxId : Int) (axThingxKind : Int) (axThingxColour : Int) (axThingxSize : Int) (axThingxWorth : Int) (axPlace : Int) (axAt : Int) (axFinder : Int) : CP T (n + 2) 36 [.agg [.i .i64 axThingxId, .i .i64 axThingxKind, .i .i64 axThingxColour, .i .i64 axThingxSize, .i .i64 axThingxWorth, .i .i64 axPlace, .i .i64 axAt, .i .i64 axFinder]] = (laws_toFind (⟨⟨axThingxId, axThingxKind, axThingxColour, axThingxSize, axThingxWorth⟩, axPlace, axAt, axFinder⟩ : Find)).map fun r => .agg (cFind r) := by
  rw [CP_eq]
  simp -dsimp +contextual only [↓evA, evB, evT, tys, encs, Nat.reduceAdd, Nat.reduceMul, Nat.reduceBEq, Nat.reduceLeDiff, Nat.reduceLT, Try.func36, Try.f36, a36, TP, orc_p, orc_l, e_laws_toThing]
  try simp only [laws_toFind, evT, encs, c_js, r_map_some, e_need_t]
  all_goals rfl
theorem e_laws_toFindS_l3 (n : Nat) {R1} {a : List Find} {R2} {out : List Find} (i : Int) [H1 : EncL cFind R1 a] [H2 : EncL cFind R2 out] : LP T (n + 3) 16 3 (frm [(0, .imm 8 R1), (3, .sl 0), (4, .i .i64 i)]) [some (Ent.lst 8 R2)] =
    (run (laws_toFindS_l3 a) (out, i)).map (fun (r : (List Find)) => (XE.exit 0, frm [(3, .sl 0)], [some (Ent.lst 8 (r.map cFind))])) := by
  obtain ⟨rfl⟩ := H1
  obtain ⟨rfl⟩ := H2
  rw [LP_eq]
  simp -dsimp only [↓evA, evB, lpG_eq, Try.func16, Try.f16, a16, TP, Nat.reduceAdd, Nat.reduceMul, Nat.reduceBEq, Nat.reduceLeDiff, Nat.reduceLT]
  refine run_map (fun (s : (List Find) × Int) => (frm [(0, .imm 8 (a.map cFind)), (3, .sl 0), (4, .i .i64 s.2)], [some (Ent.lst 8 (s.1.map cFind))])) (fun (r : (List Find)) => (XE.exit 0, frm [(3, .sl 0)], [some (Ent.lst 8 (r.map cFind))])) ?_ (out, i)
  rintro ⟨out, i⟩
  simp -dsimp +contextual only [↓evA, evB, evT, tys, encs, Nat.reduceAdd, Nat.reduceMul, Nat.reduceBEq, Nat.reduceLeDiff, Nat.reduceLT, TP, orc_p, orc_l, e_laws_toFind]
  try simp only [laws_toFindS_l3, evT, encs, c_js, r_map_some, e_need_t]
  all_goals rfl
theorem e_laws_toFindS (n : Nat) {R1} {a : List Find} [H1 : EncL cFind R1 a] : CP T (n + 4) 16 [.imm 8 R1] = (laws_toFindS a).map fun r => .own 8 (r.map cFind) := by
  obtain ⟨rfl⟩ := H1
  rw [CP_eq]
  simp -dsimp +contextual only [↓evA, evB, evT, tys, encs, Nat.reduceAdd, Nat.reduceMul, Nat.reduceBEq, Nat.reduceLeDiff, Nat.reduceLT, Try.func16, Try.f16, a16, TP, orc_p, orc_l, e_laws_toFindS_l3]
  try simp only [laws_toFindS, evT, encs, c_js, r_map_some, e_need_t]
  all_goals rfl
theorem e_spec_OldestFind_l3 (n : Nat) {R1} {l : List Find} (k : Int) (i : Int) [H1 : EncL cFind R1 l] : LP T (n + 1) 15 3 (frm [(0, .imm 8 R1), (3, .i .i64 k), (4, .i .i64 i)]) [] =
    (run (spec_OldestFind_l3 l) (k, i)).map (fun (r : Int) => (XE.exit 0, frm [(0, .imm 8 (l.map cFind)), (3, .i .i64 r)], [])) := by
  obtain ⟨rfl⟩ := H1
  rw [LP_eq]
  simp -dsimp only [↓evA, evB, lpG_eq, Try.func15, Try.f15, a15, TP, Nat.reduceAdd, Nat.reduceMul, Nat.reduceBEq, Nat.reduceLeDiff, Nat.reduceLT]
  refine run_map (fun (s : Int × Int) => (frm [(0, .imm 8 (l.map cFind)), (3, .i .i64 s.1), (4, .i .i64 s.2)], [])) (fun (r : Int) => (XE.exit 0, frm [(0, .imm 8 (l.map cFind)), (3, .i .i64 r)], [])) ?_ (k, i)
  rintro ⟨k, i⟩
  simp -dsimp +contextual only [↓evA, evB, evT, tys, encs, Nat.reduceAdd, Nat.reduceMul, Nat.reduceBEq, Nat.reduceLeDiff, Nat.reduceLT, TP, orc_p, orc_l]
  try simp only [spec_OldestFind_l3, evT, encs, c_js, r_map_some, e_need_t]
  all_goals rfl
theorem e_spec_OldestFind (n : Nat) {R1} {l : List Find} [H1 : EncL cFind R1 l] : CP T (n + 2) 15 [.imm 8 R1] = (spec_OldestFind l).map fun r => .i .i64 r := by
  obtain ⟨rfl⟩ := H1
  rw [CP_eq]
  simp -dsimp +contextual only [↓evA, evB, evT, tys, encs, Nat.reduceAdd, Nat.reduceMul, Nat.reduceBEq, Nat.reduceLeDiff, Nat.reduceLT, Try.func15, Try.f15, a15, TP, orc_p, orc_l, e_spec_OldestFind_l3]
  try simp only [spec_OldestFind, evT, encs, c_js, r_map_some, e_need_t]
  all_goals rfl
theorem e_impl_OldestFind_l5 (n : Nat) (oldestxThingxId : Int) (oldestxThingxKind : Int) (oldestxThingxColour : Int) (oldestxThingxSize : Int) (oldestxThingxWorth : Int) (oldestxPlace : Int) (oldestxAt : Int) (oldestxFinder : Int) {R1} {t12 : List Find} (t13 : Int) (t14 : Int) [H1 : EncL cFind R1 t12] : LP T (n + 1) 17 5 (frm [(3, .ptr 0 0 0), (12, .imm 8 R1), (13, .i .i64 t13), (14, .i .i64 t14)]) [some (Ent.box [.i .i64 oldestxThingxId, .i .i64 oldestxThingxKind, .i .i64 oldestxThingxColour, .i .i64 oldestxThingxSize, .i .i64 oldestxThingxWorth, .i .i64 oldestxPlace, .i .i64 oldestxAt, .i .i64 oldestxFinder])] =
    (run (impl_OldestFind_l5 t12 t13) ((⟨⟨oldestxThingxId, oldestxThingxKind, oldestxThingxColour, oldestxThingxSize, oldestxThingxWorth⟩, oldestxPlace, oldestxAt, oldestxFinder⟩ : Find), t14)).map (fun (r : Find) => (XE.exit 0, frm [(3, .ptr 0 0 0)], [some (Ent.box [.i .i64 r.Thing.Id, .i .i64 r.Thing.Kind, .i .i64 r.Thing.Colour, .i .i64 r.Thing.Size, .i .i64 r.Thing.Worth, .i .i64 r.Place, .i .i64 r.At, .i .i64 r.Finder])])) := by
  obtain ⟨rfl⟩ := H1
  rw [LP_eq]
  simp -dsimp only [↓evA, evB, lpG_eq, Try.func17, Try.f17, a17, TP, Nat.reduceAdd, Nat.reduceMul, Nat.reduceBEq, Nat.reduceLeDiff, Nat.reduceLT]
  refine run_map (fun (s : Find × Int) => (frm [(3, .ptr 0 0 0), (12, .imm 8 (t12.map cFind)), (13, .i .i64 t13), (14, .i .i64 s.2)], [some (Ent.box [.i .i64 s.1.Thing.Id, .i .i64 s.1.Thing.Kind, .i .i64 s.1.Thing.Colour, .i .i64 s.1.Thing.Size, .i .i64 s.1.Thing.Worth, .i .i64 s.1.Place, .i .i64 s.1.At, .i .i64 s.1.Finder])])) (fun (r : Find) => (XE.exit 0, frm [(3, .ptr 0 0 0)], [some (Ent.box [.i .i64 r.Thing.Id, .i .i64 r.Thing.Kind, .i .i64 r.Thing.Colour, .i .i64 r.Thing.Size, .i .i64 r.Thing.Worth, .i .i64 r.Place, .i .i64 r.At, .i .i64 r.Finder])])) ?_ ((⟨⟨oldestxThingxId, oldestxThingxKind, oldestxThingxColour, oldestxThingxSize, oldestxThingxWorth⟩, oldestxPlace, oldestxAt, oldestxFinder⟩ : Find), t14)
  rintro ⟨oldest, t14⟩
  simp -dsimp +contextual only [↓evA, evB, evT, tys, encs, Nat.reduceAdd, Nat.reduceMul, Nat.reduceBEq, Nat.reduceLeDiff, Nat.reduceLT, TP, orc_p, orc_l]
  try simp only [impl_OldestFind_l5, evT, encs, c_js, r_map_some, e_need_t]
  all_goals rfl
theorem e_impl_OldestFind (n : Nat) {R1} {l : List Find} [H1 : EncL cFind R1 l] : CP T (n + 2) 17 [.imm 8 R1] = (impl_OldestFind l).map fun r => .i .i64 r := by
  obtain ⟨rfl⟩ := H1
  rw [CP_eq]
  simp -dsimp +contextual only [↓evA, evB, evT, tys, encs, Nat.reduceAdd, Nat.reduceMul, Nat.reduceBEq, Nat.reduceLeDiff, Nat.reduceLT, Try.func17, Try.f17, a17, TP, orc_p, orc_l, e_impl_OldestFind_l5]
  try simp only [impl_OldestFind, evT, encs, c_js, r_map_some, e_need_t]
  all_goals rfl
theorem e_laws_eqThing (n : Nat) (axId : Int) (axKind : Int) (axColour : Int) (axSize : Int) (axWorth : Int) (bxId : Int) (bxKind : Int) (bxColour : Int) (bxSize : Int) (bxWorth : Int) : CP T (n + 1) 53 [.agg [.i .i64 axId, .i .i64 axKind, .i .i64 axColour, .i .i64 axSize, .i .i64 axWorth], .agg [.i .i64 bxId, .i .i64 bxKind, .i .i64 bxColour, .i .i64 bxSize, .i .i64 bxWorth]] = (laws_eqThing (⟨axId, axKind, axColour, axSize, axWorth⟩ : Thing) (⟨bxId, bxKind, bxColour, bxSize, bxWorth⟩ : Thing)).map fun r => .b r := by
  rw [CP_eq]
  simp -dsimp +contextual only [↓evA, evB, evT, tys, encs, Nat.reduceAdd, Nat.reduceMul, Nat.reduceBEq, Nat.reduceLeDiff, Nat.reduceLT, Try.func53, Try.f53, a53, TP, orc_p, orc_l]
  try simp only [laws_eqThing, evT, encs, c_js, r_map_some, e_need_t]
  all_goals rfl
theorem e_laws_eqFind (n : Nat) (axThingxId : Int) (axThingxKind : Int) (axThingxColour : Int) (axThingxSize : Int) (axThingxWorth : Int) (axPlace : Int) (axAt : Int) (axFinder : Int) (bxThingxId : Int) (bxThingxKind : Int) (bxThingxColour : Int) (bxThingxSize : Int) (bxThingxWorth : Int) (bxPlace : Int) (bxAt : Int) (bxFinder : Int) : CP T (n + 2) 37 [.agg [.i .i64 axThingxId, .i .i64 axThingxKind, .i .i64 axThingxColour, .i .i64 axThingxSize, .i .i64 axThingxWorth, .i .i64 axPlace, .i .i64 axAt, .i .i64 axFinder], .agg [.i .i64 bxThingxId, .i .i64 bxThingxKind, .i .i64 bxThingxColour, .i .i64 bxThingxSize, .i .i64 bxThingxWorth, .i .i64 bxPlace, .i .i64 bxAt, .i .i64 bxFinder]] = (laws_eqFind (⟨⟨axThingxId, axThingxKind, axThingxColour, axThingxSize, axThingxWorth⟩, axPlace, axAt, axFinder⟩ : Find) (⟨⟨bxThingxId, bxThingxKind, bxThingxColour, bxThingxSize, bxThingxWorth⟩, bxPlace, bxAt, bxFinder⟩ : Find)).map fun r => .b r := by
  rw [CP_eq]
  simp -dsimp +contextual only [↓evA, evB, evT, tys, encs, Nat.reduceAdd, Nat.reduceMul, Nat.reduceBEq, Nat.reduceLeDiff, Nat.reduceLT, Try.func37, Try.f37, a37, TP, orc_p, orc_l, e_laws_eqThing]
  try simp only [laws_eqFind, evT, encs, c_js, r_map_some, e_need_t]
  all_goals rfl
theorem e_laws_eqFindS_l4 (n : Nat) {R1} {a : List Find} {R2} {b : List Find} (i : Int) [H1 : EncL cFind R1 a] [H2 : EncL cFind R2 b] : LP T (n + 3) 18 4 (frm [(0, .imm 8 R1), (1, .imm 8 R2), (5, .i .i64 i)]) [] =
    lmap (run (laws_eqFindS_l4 a b) i) (fun (r : Bool) => (XE.ret, frm [(4, .b r)], [])) (fun (r : Unit) => (XE.exit 0, frm [], [])) := by
  obtain ⟨rfl⟩ := H1
  obtain ⟨rfl⟩ := H2
  rw [LP_eq]
  simp -dsimp only [↓evA, evB, lpG_eq, Try.func18, Try.f18, a18, TP, Nat.reduceAdd, Nat.reduceMul, Nat.reduceBEq, Nat.reduceLeDiff, Nat.reduceLT]
  refine run_map (fun (s : Int) => (frm [(0, .imm 8 (a.map cFind)), (1, .imm 8 (b.map cFind)), (5, .i .i64 s)], [])) (evO (fun (r : Bool) => (XE.ret, frm [(4, .b r)], [])) (fun (r : Unit) => (XE.exit 0, frm [], []))) ?_ i
  intro i
  simp -dsimp +contextual only [↓evA, evB, evT, tys, encs, Nat.reduceAdd, Nat.reduceMul, Nat.reduceBEq, Nat.reduceLeDiff, Nat.reduceLT, TP, orc_p, orc_l, e_laws_eqFind]
  try simp only [laws_eqFindS_l4, evT, encs, c_js, r_map_some, e_need_t]
  all_goals rfl
theorem e_laws_eqFindS (n : Nat) {R1} {a : List Find} {R2} {b : List Find} [H1 : EncL cFind R1 a] [H2 : EncL cFind R2 b] : CP T (n + 4) 18 [.imm 8 R1, .imm 8 R2] = (laws_eqFindS a b).map fun r => .b r := by
  obtain ⟨rfl⟩ := H1
  obtain ⟨rfl⟩ := H2
  rw [CP_eq]
  simp -dsimp +contextual only [↓evA, evB, evT, tys, encs, Nat.reduceAdd, Nat.reduceMul, Nat.reduceBEq, Nat.reduceLeDiff, Nat.reduceLT, Try.func18, Try.f18, a18, TP, orc_p, orc_l, e_laws_eqFindS_l4]
  try simp only [laws_eqFindS, evT, encs, c_js, r_map_some, e_need_t]
  all_goals rfl
theorem e_laws_FnExactOldestFind (n : Nat) {R1} {aL : List Find} [H1 : EncL cFind R1 aL] : CP T (n + 5) 4 [.imm 8 R1] = (laws_FnExactOldestFind aL).map fun r => .b r := by
  obtain ⟨rfl⟩ := H1
  rw [CP_eq]
  simp -dsimp +contextual only [↓evA, evB, evT, tys, encs, Nat.reduceAdd, Nat.reduceMul, Nat.reduceBEq, Nat.reduceLeDiff, Nat.reduceLT, Try.func4, Try.f4, a4, TP, orc_p, orc_l, e_laws_szFindS, e_laws_toFindS, e_spec_OldestFind, e_impl_OldestFind, e_laws_eqFindS]
  try simp only [laws_FnExactOldestFind, evT, encs, c_js, r_map_some, e_need_t]
  all_goals rfl
theorem e_spec_Min (n : Nat) (a : Int) (b : Int) : CP T (n + 1) 39 [.i .i64 a, .i .i64 b] = (spec_Min a b).map fun r => .i .i64 r := by
  rw [CP_eq]
  simp -dsimp +contextual only [↓evA, evB, evT, tys, encs, Nat.reduceAdd, Nat.reduceMul, Nat.reduceBEq, Nat.reduceLeDiff, Nat.reduceLT, Try.func39, Try.f39, a39, TP, orc_p, orc_l]
  try simp only [spec_Min, evT, encs, c_js, r_map_some, e_need_t]
  all_goals rfl
theorem e_spec_Max (n : Nat) (a : Int) (b : Int) : CP T (n + 1) 38 [.i .i64 a, .i .i64 b] = (spec_Max a b).map fun r => .i .i64 r := by
  rw [CP_eq]
  simp -dsimp +contextual only [↓evA, evB, evT, tys, encs, Nat.reduceAdd, Nat.reduceMul, Nat.reduceBEq, Nat.reduceLeDiff, Nat.reduceLT, Try.func38, Try.f38, a38, TP, orc_p, orc_l]
  try simp only [spec_Max, evT, encs, c_js, r_map_some, e_need_t]
  all_goals rfl
theorem e_spec_WorthOf_l3 (n : Nat) {R1} {l : List Find} (vn : Int) (i : Int) [H1 : EncL cFind R1 l] : LP T (n + 2) 19 3 (frm [(0, .imm 8 R1), (3, .i .i64 vn), (4, .i .i64 i)]) [] =
    (run (spec_WorthOf_l3 l) (vn, i)).map (fun (r : Int) => (XE.exit 0, frm [(3, .i .i64 r)], [])) := by
  obtain ⟨rfl⟩ := H1
  rw [LP_eq]
  simp -dsimp only [↓evA, evB, lpG_eq, Try.func19, Try.f19, a19, TP, Nat.reduceAdd, Nat.reduceMul, Nat.reduceBEq, Nat.reduceLeDiff, Nat.reduceLT]
  refine run_map (fun (s : Int × Int) => (frm [(0, .imm 8 (l.map cFind)), (3, .i .i64 s.1), (4, .i .i64 s.2)], [])) (fun (r : Int) => (XE.exit 0, frm [(3, .i .i64 r)], [])) ?_ (vn, i)
  rintro ⟨vn, i⟩
  simp -dsimp +contextual only [↓evA, evB, evT, tys, encs, Nat.reduceAdd, Nat.reduceMul, Nat.reduceBEq, Nat.reduceLeDiff, Nat.reduceLT, TP, orc_p, orc_l, e_spec_Min, e_spec_Max]
  try simp only [spec_WorthOf_l3, evT, encs, c_js, r_map_some, e_need_t]
  all_goals rfl
theorem e_spec_WorthOf (n : Nat) {R1} {l : List Find} [H1 : EncL cFind R1 l] : CP T (n + 3) 19 [.imm 8 R1] = (spec_WorthOf l).map fun r => .i .i64 r := by
  obtain ⟨rfl⟩ := H1
  rw [CP_eq]
  simp -dsimp +contextual only [↓evA, evB, evT, tys, encs, Nat.reduceAdd, Nat.reduceMul, Nat.reduceBEq, Nat.reduceLeDiff, Nat.reduceLT, Try.func19, Try.f19, a19, TP, orc_p, orc_l, e_spec_WorthOf_l3]
  try simp only [spec_WorthOf, evT, encs, c_js, r_map_some, e_need_t]
  all_goals rfl
theorem e_impl_WorthOf_l3 (n : Nat) (vn : Int) {R1} {t6 : List Find} (t7 : Int) (t8 : Int) [H1 : EncL cFind R1 t6] : LP T (n + 1) 20 3 (frm [(3, .i .i64 vn), (6, .imm 8 R1), (7, .i .i64 t7), (8, .i .i64 t8)]) [] =
    (run (impl_WorthOf_l3 t6 t7) (vn, t8)).map (fun (r : Int) => (XE.exit 0, frm [(3, .i .i64 r)], [])) := by
  obtain ⟨rfl⟩ := H1
  rw [LP_eq]
  simp -dsimp only [↓evA, evB, lpG_eq, Try.func20, Try.f20, a20, TP, Nat.reduceAdd, Nat.reduceMul, Nat.reduceBEq, Nat.reduceLeDiff, Nat.reduceLT]
  refine run_map (fun (s : Int × Int) => (frm [(3, .i .i64 s.1), (6, .imm 8 (t6.map cFind)), (7, .i .i64 t7), (8, .i .i64 s.2)], [])) (fun (r : Int) => (XE.exit 0, frm [(3, .i .i64 r)], [])) ?_ (vn, t8)
  rintro ⟨vn, t8⟩
  simp -dsimp +contextual only [↓evA, evB, evT, tys, encs, Nat.reduceAdd, Nat.reduceMul, Nat.reduceBEq, Nat.reduceLeDiff, Nat.reduceLT, TP, orc_p, orc_l]
  try simp only [impl_WorthOf_l3, evT, encs, c_js, r_map_some, e_need_t]
  all_goals rfl
theorem e_impl_WorthOf (n : Nat) {R1} {l : List Find} [H1 : EncL cFind R1 l] : CP T (n + 2) 20 [.imm 8 R1] = (impl_WorthOf l).map fun r => .i .i64 r := by
  obtain ⟨rfl⟩ := H1
  rw [CP_eq]
  simp -dsimp +contextual only [↓evA, evB, evT, tys, encs, Nat.reduceAdd, Nat.reduceMul, Nat.reduceBEq, Nat.reduceLeDiff, Nat.reduceLT, Try.func20, Try.f20, a20, TP, orc_p, orc_l, e_impl_WorthOf_l3]
  try simp only [impl_WorthOf, evT, encs, c_js, r_map_some, e_need_t]
  all_goals rfl
theorem e_laws_FnExactWorthOf (n : Nat) {R1} {aL : List Find} [H1 : EncL cFind R1 aL] : CP T (n + 5) 5 [.imm 8 R1] = (laws_FnExactWorthOf aL).map fun r => .b r := by
  obtain ⟨rfl⟩ := H1
  rw [CP_eq]
  simp -dsimp +contextual only [↓evA, evB, evT, tys, encs, Nat.reduceAdd, Nat.reduceMul, Nat.reduceBEq, Nat.reduceLeDiff, Nat.reduceLT, Try.func5, Try.f5, a5, TP, orc_p, orc_l, e_laws_szFindS, e_laws_toFindS, e_spec_WorthOf, e_impl_WorthOf, e_laws_eqFindS]
  try simp only [laws_FnExactWorthOf, evT, encs, c_js, r_map_some, e_need_t]
  all_goals rfl
theorem e_spec_IsThing (n : Nat) (xxId : Int) (xxKind : Int) (xxColour : Int) (xxSize : Int) (xxWorth : Int) : CP T (n + 2) 65 [.agg [.i .i64 xxId, .i .i64 xxKind, .i .i64 xxColour, .i .i64 xxSize, .i .i64 xxWorth]] = (spec_IsThing (⟨xxId, xxKind, xxColour, xxSize, xxWorth⟩ : Thing)).map fun r => .b r := by
  rw [CP_eq]
  simp -dsimp +contextual only [↓evA, evB, evT, tys, encs, Nat.reduceAdd, Nat.reduceMul, Nat.reduceBEq, Nat.reduceLeDiff, Nat.reduceLT, Try.func65, Try.f65, a65, TP, orc_p, orc_l, e_spec_l1In]
  try simp only [spec_IsThing, evT, encs, c_js, r_map_some, e_need_t]
  all_goals rfl
theorem e_spec_IsFind (n : Nat) (fxThingxId : Int) (fxThingxKind : Int) (fxThingxColour : Int) (fxThingxSize : Int) (fxThingxWorth : Int) (fxPlace : Int) (fxAt : Int) (fxFinder : Int) : CP T (n + 3) 54 [.agg [.i .i64 fxThingxId, .i .i64 fxThingxKind, .i .i64 fxThingxColour, .i .i64 fxThingxSize, .i .i64 fxThingxWorth, .i .i64 fxPlace, .i .i64 fxAt, .i .i64 fxFinder]] = (spec_IsFind (⟨⟨fxThingxId, fxThingxKind, fxThingxColour, fxThingxSize, fxThingxWorth⟩, fxPlace, fxAt, fxFinder⟩ : Find)).map fun r => .b r := by
  rw [CP_eq]
  simp -dsimp +contextual only [↓evA, evB, evT, tys, encs, Nat.reduceAdd, Nat.reduceMul, Nat.reduceBEq, Nat.reduceLeDiff, Nat.reduceLT, Try.func54, Try.f54, a54, TP, orc_p, orc_l, e_spec_IsThing, e_spec_l1In]
  try simp only [spec_IsFind, evT, encs, c_js, r_map_some, e_need_t]
  all_goals rfl
theorem e_spec_AreFinds_l2 (n : Nat) {R1} {l : List Find} (i : Int) [H1 : EncL cFind R1 l] : LP T (n + 4) 40 2 (frm [(0, .imm 8 R1), (3, .i .i64 i)]) [] =
    lmap (run (spec_AreFinds_l2 l) i) (fun (r : Bool) => (XE.ret, frm [(2, .b r)], [])) (fun (r : Unit) => (XE.exit 0, frm [(0, .imm 8 (l.map cFind))], [])) := by
  obtain ⟨rfl⟩ := H1
  rw [LP_eq]
  simp -dsimp only [↓evA, evB, lpG_eq, Try.func40, Try.f40, a40, TP, Nat.reduceAdd, Nat.reduceMul, Nat.reduceBEq, Nat.reduceLeDiff, Nat.reduceLT]
  refine run_map (fun (s : Int) => (frm [(0, .imm 8 (l.map cFind)), (3, .i .i64 s)], [])) (evO (fun (r : Bool) => (XE.ret, frm [(2, .b r)], [])) (fun (r : Unit) => (XE.exit 0, frm [(0, .imm 8 (l.map cFind))], []))) ?_ i
  intro i
  simp -dsimp +contextual only [↓evA, evB, evT, tys, encs, Nat.reduceAdd, Nat.reduceMul, Nat.reduceBEq, Nat.reduceLeDiff, Nat.reduceLT, TP, orc_p, orc_l, e_spec_IsFind]
  try simp only [spec_AreFinds_l2, evT, encs, c_js, r_map_some, e_need_t]
  all_goals rfl
theorem e_spec_AreFinds (n : Nat) {R1} {l : List Find} [H1 : EncL cFind R1 l] : CP T (n + 5) 40 [.imm 8 R1] = (spec_AreFinds l).map fun r => .b r := by
  obtain ⟨rfl⟩ := H1
  rw [CP_eq]
  simp -dsimp +contextual only [↓evA, evB, evT, tys, encs, Nat.reduceAdd, Nat.reduceMul, Nat.reduceBEq, Nat.reduceLeDiff, Nat.reduceLT, Try.func40, Try.f40, a40, TP, orc_p, orc_l, e_spec_AreFinds_l2]
  try simp only [spec_AreFinds, evT, encs, c_js, r_map_some, e_need_t]
  all_goals rfl
theorem e_spec_FoundAt_l3 (n : Nat) {R1} {l : List Find} (place : Int) {R2} {out : List Int} (i : Int) [H1 : EncL cFind R1 l] [H2 : EncL c_i64 R2 out] : LP T (n + 1) 41 3 (frm [(0, .imm 8 R1), (1, .i .i64 place), (5, .sl 0), (6, .i .i64 i)]) [some (Ent.lst 1 R2)] =
    (run (spec_FoundAt_l3 l place) (out, i)).map (fun (r : (List Int)) => (XE.exit 0, frm [(5, .sl 0)], [some (Ent.lst 1 (r.map c_i64))])) := by
  obtain ⟨rfl⟩ := H1
  obtain ⟨rfl⟩ := H2
  rw [LP_eq]
  simp -dsimp only [↓evA, evB, lpG_eq, Try.func41, Try.f41, a41, TP, Nat.reduceAdd, Nat.reduceMul, Nat.reduceBEq, Nat.reduceLeDiff, Nat.reduceLT]
  refine run_map (fun (s : (List Int) × Int) => (frm [(0, .imm 8 (l.map cFind)), (1, .i .i64 place), (5, .sl 0), (6, .i .i64 s.2)], [some (Ent.lst 1 (s.1.map c_i64))])) (fun (r : (List Int)) => (XE.exit 0, frm [(5, .sl 0)], [some (Ent.lst 1 (r.map c_i64))])) ?_ (out, i)
  rintro ⟨out, i⟩
  simp -dsimp +contextual only [↓evA, evB, evT, tys, encs, Nat.reduceAdd, Nat.reduceMul, Nat.reduceBEq, Nat.reduceLeDiff, Nat.reduceLT, TP, orc_p, orc_l]
  try simp only [spec_FoundAt_l3, evT, encs, c_js, r_map_some, e_need_t]
  all_goals rfl
theorem e_spec_FoundAt (n : Nat) {R1} {l : List Find} (place : Int) [H1 : EncL cFind R1 l] : CP T (n + 2) 41 [.imm 8 R1, .i .i64 place] = (spec_FoundAt l place).map fun r => .own 1 (r.map c_i64) := by
  obtain ⟨rfl⟩ := H1
  rw [CP_eq]
  simp -dsimp +contextual only [↓evA, evB, evT, tys, encs, Nat.reduceAdd, Nat.reduceMul, Nat.reduceBEq, Nat.reduceLeDiff, Nat.reduceLT, Try.func41, Try.f41, a41, TP, orc_p, orc_l, e_spec_FoundAt_l3]
  try simp only [spec_FoundAt, evT, encs, c_js, r_map_some, e_need_t]
  all_goals rfl
theorem e_spec_BusiestPlace_l4 (n : Nat) {R1} {l : List Find} (best : Int) (most : Int) (p : Int) [H1 : EncL cFind R1 l] : LP T (n + 6) 21 4 (frm [(0, .imm 8 R1), (3, .i .i64 best), (4, .i .i64 most), (5, .i .i64 p)]) [] =
    (run (spec_BusiestPlace_l4 l) (best, most, p)).map (fun (r : Int) => (XE.exit 0, frm [(3, .i .i64 r)], [])) := by
  obtain ⟨rfl⟩ := H1
  rw [LP_eq]
  simp -dsimp only [↓evA, evB, lpG_eq, Try.func21, Try.f21, a21, TP, Nat.reduceAdd, Nat.reduceMul, Nat.reduceBEq, Nat.reduceLeDiff, Nat.reduceLT]
  refine run_map (fun (s : Int × Int × Int) => (frm [(0, .imm 8 (l.map cFind)), (3, .i .i64 s.1), (4, .i .i64 s.2.1), (5, .i .i64 s.2.2)], [])) (fun (r : Int) => (XE.exit 0, frm [(3, .i .i64 r)], [])) ?_ (best, most, p)
  rintro ⟨best, most, p⟩
  simp -dsimp +contextual only [↓evA, evB, evT, tys, encs, Nat.reduceAdd, Nat.reduceMul, Nat.reduceBEq, Nat.reduceLeDiff, Nat.reduceLT, TP, orc_p, orc_l, e_spec_AreFinds, e_spec_FoundAt]
  try simp only [spec_BusiestPlace_l4, evT, encs, c_js, r_map_some, e_need_t]
  all_goals rfl
theorem e_spec_BusiestPlace (n : Nat) {R1} {l : List Find} [H1 : EncL cFind R1 l] : CP T (n + 7) 21 [.imm 8 R1] = (spec_BusiestPlace l).map fun r => .i .i64 r := by
  obtain ⟨rfl⟩ := H1
  rw [CP_eq]
  simp -dsimp +contextual only [↓evA, evB, evT, tys, encs, Nat.reduceAdd, Nat.reduceMul, Nat.reduceBEq, Nat.reduceLeDiff, Nat.reduceLT, Try.func21, Try.f21, a21, TP, orc_p, orc_l, e_spec_BusiestPlace_l4]
  try simp only [spec_BusiestPlace, evT, encs, c_js, r_map_some, e_need_t]
  all_goals rfl
theorem e_impl_IsThing (n : Nat) (xxId : Int) (xxKind : Int) (xxColour : Int) (xxSize : Int) (xxWorth : Int) : CP T (n + 2) 66 [.agg [.i .i64 xxId, .i .i64 xxKind, .i .i64 xxColour, .i .i64 xxSize, .i .i64 xxWorth]] = (impl_IsThing (⟨xxId, xxKind, xxColour, xxSize, xxWorth⟩ : Thing)).map fun r => .b r := by
  rw [CP_eq]
  simp -dsimp +contextual only [↓evA, evB, evT, tys, encs, Nat.reduceAdd, Nat.reduceMul, Nat.reduceBEq, Nat.reduceLeDiff, Nat.reduceLT, Try.func66, Try.f66, a66, TP, orc_p, orc_l, e_impl_InRange]
  try simp only [impl_IsThing, evT, encs, c_js, r_map_some, e_need_t]
  all_goals rfl
theorem e_impl_IsFind (n : Nat) (fxThingxId : Int) (fxThingxKind : Int) (fxThingxColour : Int) (fxThingxSize : Int) (fxThingxWorth : Int) (fxPlace : Int) (fxAt : Int) (fxFinder : Int) : CP T (n + 3) 55 [.agg [.i .i64 fxThingxId, .i .i64 fxThingxKind, .i .i64 fxThingxColour, .i .i64 fxThingxSize, .i .i64 fxThingxWorth, .i .i64 fxPlace, .i .i64 fxAt, .i .i64 fxFinder]] = (impl_IsFind (⟨⟨fxThingxId, fxThingxKind, fxThingxColour, fxThingxSize, fxThingxWorth⟩, fxPlace, fxAt, fxFinder⟩ : Find)).map fun r => .b r := by
  rw [CP_eq]
  simp -dsimp +contextual only [↓evA, evB, evT, tys, encs, Nat.reduceAdd, Nat.reduceMul, Nat.reduceBEq, Nat.reduceLeDiff, Nat.reduceLT, Try.func55, Try.f55, a55, TP, orc_p, orc_l, e_impl_IsThing, e_impl_InRange]
  try simp only [impl_IsFind, evT, encs, c_js, r_map_some, e_need_t]
  all_goals rfl
theorem e_impl_AreFinds_l4 (n : Nat) {R1} {l : List Find} {R2} {t8 : List Find} (t9 : Int) (t10 : Int) [H1 : EncL cFind R1 l] [H2 : EncL cFind R2 t8] : LP T (n + 4) 42 4 (frm [(0, .imm 8 R1), (8, .imm 8 R2), (9, .i .i64 t9), (10, .i .i64 t10)]) [] =
    lmap (run (impl_AreFinds_l4 l t8 t9) t10) (fun (r : Bool) => (XE.ret, frm [(2, .b r)], [])) (fun (r : Unit) => (XE.exit 0, frm [], [])) := by
  obtain ⟨rfl⟩ := H1
  obtain ⟨rfl⟩ := H2
  rw [LP_eq]
  simp -dsimp only [↓evA, evB, lpG_eq, Try.func42, Try.f42, a42, TP, Nat.reduceAdd, Nat.reduceMul, Nat.reduceBEq, Nat.reduceLeDiff, Nat.reduceLT]
  refine run_map (fun (s : Int) => (frm [(0, .imm 8 (l.map cFind)), (8, .imm 8 (t8.map cFind)), (9, .i .i64 t9), (10, .i .i64 s)], [])) (evO (fun (r : Bool) => (XE.ret, frm [(2, .b r)], [])) (fun (r : Unit) => (XE.exit 0, frm [], []))) ?_ t10
  intro t10
  simp -dsimp +contextual only [↓evA, evB, evT, tys, encs, Nat.reduceAdd, Nat.reduceMul, Nat.reduceBEq, Nat.reduceLeDiff, Nat.reduceLT, TP, orc_p, orc_l, e_impl_IsFind]
  try simp only [impl_AreFinds_l4, evT, encs, c_js, r_map_some, e_need_t]
  all_goals rfl
theorem e_impl_AreFinds (n : Nat) {R1} {l : List Find} [H1 : EncL cFind R1 l] : CP T (n + 5) 42 [.imm 8 R1] = (impl_AreFinds l).map fun r => .b r := by
  obtain ⟨rfl⟩ := H1
  rw [CP_eq]
  simp -dsimp +contextual only [↓evA, evB, evT, tys, encs, Nat.reduceAdd, Nat.reduceMul, Nat.reduceBEq, Nat.reduceLeDiff, Nat.reduceLT, Try.func42, Try.f42, a42, TP, orc_p, orc_l, e_impl_AreFinds_l4]
  try simp only [impl_AreFinds, evT, encs, c_js, r_map_some, e_need_t]
  all_goals rfl
theorem e_impl_FoundAt_l3 (n : Nat) (place : Int) {R1} {out : List Int} {R2} {t9 : List Find} (t10 : Int) (t11 : Int) [H1 : EncL c_i64 R1 out] [H2 : EncL cFind R2 t9] : LP T (n + 1) 43 3 (frm [(1, .i .i64 place), (5, .sl 0), (9, .imm 8 R2), (10, .i .i64 t10), (11, .i .i64 t11)]) [some (Ent.lst 1 R1)] =
    (run (impl_FoundAt_l3 place t9 t10) (out, t11)).map (fun (r : (List Int)) => (XE.exit 0, frm [(5, .sl 0)], [some (Ent.lst 1 (r.map c_i64))])) := by
  obtain ⟨rfl⟩ := H1
  obtain ⟨rfl⟩ := H2
  rw [LP_eq]
  simp -dsimp only [↓evA, evB, lpG_eq, Try.func43, Try.f43, a43, TP, Nat.reduceAdd, Nat.reduceMul, Nat.reduceBEq, Nat.reduceLeDiff, Nat.reduceLT]
  refine run_map (fun (s : (List Int) × Int) => (frm [(1, .i .i64 place), (5, .sl 0), (9, .imm 8 (t9.map cFind)), (10, .i .i64 t10), (11, .i .i64 s.2)], [some (Ent.lst 1 (s.1.map c_i64))])) (fun (r : (List Int)) => (XE.exit 0, frm [(5, .sl 0)], [some (Ent.lst 1 (r.map c_i64))])) ?_ (out, t11)
  rintro ⟨out, t11⟩
  simp -dsimp +contextual only [↓evA, evB, evT, tys, encs, Nat.reduceAdd, Nat.reduceMul, Nat.reduceBEq, Nat.reduceLeDiff, Nat.reduceLT, TP, orc_p, orc_l]
  try simp only [impl_FoundAt_l3, evT, encs, c_js, r_map_some, e_need_t]
  all_goals rfl
theorem e_impl_FoundAt (n : Nat) {R1} {l : List Find} (place : Int) [H1 : EncL cFind R1 l] : CP T (n + 2) 43 [.imm 8 R1, .i .i64 place] = (impl_FoundAt l place).map fun r => .own 1 (r.map c_i64) := by
  obtain ⟨rfl⟩ := H1
  rw [CP_eq]
  simp -dsimp +contextual only [↓evA, evB, evT, tys, encs, Nat.reduceAdd, Nat.reduceMul, Nat.reduceBEq, Nat.reduceLeDiff, Nat.reduceLT, Try.func43, Try.f43, a43, TP, orc_p, orc_l, e_impl_FoundAt_l3]
  try simp only [impl_FoundAt, evT, encs, c_js, r_map_some, e_need_t]
  all_goals rfl
theorem e_impl_BusiestPlace_l5 (n : Nat) {R1} {l : List Find} (best : Int) (most : Int) (place : Int) [H1 : EncL cFind R1 l] : LP T (n + 3) 22 5 (frm [(0, .imm 8 R1), (3, .i .i64 best), (4, .i .i64 most), (5, .i .i64 place)]) [] =
    (run (impl_BusiestPlace_l5 l) (best, most, place)).map (fun (r : Int) => (XE.exit 0, frm [(3, .i .i64 r)], [])) := by
  obtain ⟨rfl⟩ := H1
  rw [LP_eq]
  simp -dsimp only [↓evA, evB, lpG_eq, Try.func22, Try.f22, a22, TP, Nat.reduceAdd, Nat.reduceMul, Nat.reduceBEq, Nat.reduceLeDiff, Nat.reduceLT]
  refine run_map (fun (s : Int × Int × Int) => (frm [(0, .imm 8 (l.map cFind)), (3, .i .i64 s.1), (4, .i .i64 s.2.1), (5, .i .i64 s.2.2)], [])) (fun (r : Int) => (XE.exit 0, frm [(3, .i .i64 r)], [])) ?_ (best, most, place)
  rintro ⟨best, most, place⟩
  simp -dsimp +contextual only [↓evA, evB, evT, tys, encs, Nat.reduceAdd, Nat.reduceMul, Nat.reduceBEq, Nat.reduceLeDiff, Nat.reduceLT, TP, orc_p, orc_l, e_impl_FoundAt]
  try simp only [impl_BusiestPlace_l5, evT, encs, c_js, r_map_some, e_need_t]
  all_goals rfl
theorem e_impl_BusiestPlace (n : Nat) {R1} {l : List Find} [H1 : EncL cFind R1 l] : CP T (n + 6) 22 [.imm 8 R1] = (impl_BusiestPlace l).map fun r => .i .i64 r := by
  obtain ⟨rfl⟩ := H1
  rw [CP_eq]
  simp -dsimp +contextual only [↓evA, evB, evT, tys, encs, Nat.reduceAdd, Nat.reduceMul, Nat.reduceBEq, Nat.reduceLeDiff, Nat.reduceLT, Try.func22, Try.f22, a22, TP, orc_p, orc_l, e_impl_AreFinds, e_impl_BusiestPlace_l5]
  try simp only [impl_BusiestPlace, evT, encs, c_js, r_map_some, e_need_t]
  all_goals rfl
theorem e_laws_FnExactBusiestPlace (n : Nat) {R1} {aL : List Find} [H1 : EncL cFind R1 aL] : CP T (n + 8) 6 [.imm 8 R1] = (laws_FnExactBusiestPlace aL).map fun r => .b r := by
  obtain ⟨rfl⟩ := H1
  rw [CP_eq]
  simp -dsimp +contextual only [↓evA, evB, evT, tys, encs, Nat.reduceAdd, Nat.reduceMul, Nat.reduceBEq, Nat.reduceLeDiff, Nat.reduceLT, Try.func6, Try.f6, a6, TP, orc_p, orc_l, e_laws_szFindS, e_laws_toFindS, e_spec_BusiestPlace, e_impl_BusiestPlace, e_laws_eqFindS]
  try simp only [laws_FnExactBusiestPlace, evT, encs, c_js, r_map_some, e_need_t]
  all_goals rfl
theorem e_spec_Mod (n : Nat) (vn : Int) (m : Int) : CP T (n + 2) 73 [.i .i64 vn, .i .i64 m] = (spec_Mod vn m).map fun r => .i .i64 r := by
  rw [CP_eq]
  simp -dsimp +contextual only [↓evA, evB, evT, tys, encs, Nat.reduceAdd, Nat.reduceMul, Nat.reduceBEq, Nat.reduceLeDiff, Nat.reduceLT, Try.func73, Try.f73, a73, TP, orc_p, orc_l, e_spec_l1In]
  try simp only [spec_Mod, evT, encs, c_js, r_map_some, e_need_t]
  all_goals rfl
theorem e_spec_Hash_l3 (n : Nat) {R1} {l : List Int} (d : Int) (i : Int) [H1 : EncL c_i64 R1 l] : LP T (n + 3) 67 3 (frm [(0, .imm 1 R1), (3, .i .i64 d), (4, .i .i64 i)]) [] =
    (run (spec_Hash_l3 l) (d, i)).map (fun (r : Int) => (XE.exit 0, frm [(3, .i .i64 r)], [])) := by
  obtain ⟨rfl⟩ := H1
  rw [LP_eq]
  simp -dsimp only [↓evA, evB, lpG_eq, Try.func67, Try.f67, a67, TP, Nat.reduceAdd, Nat.reduceMul, Nat.reduceBEq, Nat.reduceLeDiff, Nat.reduceLT]
  refine run_map (fun (s : Int × Int) => (frm [(0, .imm 1 (l.map c_i64)), (3, .i .i64 s.1), (4, .i .i64 s.2)], [])) (fun (r : Int) => (XE.exit 0, frm [(3, .i .i64 r)], [])) ?_ (d, i)
  rintro ⟨d, i⟩
  simp -dsimp +contextual only [↓evA, evB, evT, tys, encs, Nat.reduceAdd, Nat.reduceMul, Nat.reduceBEq, Nat.reduceLeDiff, Nat.reduceLT, TP, orc_p, orc_l, e_spec_Mod]
  try simp only [spec_Hash_l3, evT, encs, c_js, r_map_some, e_need_t]
  all_goals rfl
theorem e_spec_Hash (n : Nat) {R1} {l : List Int} [H1 : EncL c_i64 R1 l] : CP T (n + 4) 67 [.imm 1 R1] = (spec_Hash l).map fun r => .i .i64 r := by
  obtain ⟨rfl⟩ := H1
  rw [CP_eq]
  simp -dsimp +contextual only [↓evA, evB, evT, tys, encs, Nat.reduceAdd, Nat.reduceMul, Nat.reduceBEq, Nat.reduceLeDiff, Nat.reduceLT, Try.func67, Try.f67, a67, TP, orc_p, orc_l, e_spec_Hash_l3]
  try simp only [spec_Hash, evT, encs, c_js, r_map_some, e_need_t]
  all_goals rfl
theorem e_spec_HandSeal (n : Nat) (before : Int) (xxThing : Int) (xxHolder : Int) (xxWho : Int) (xxAt : Int) (xxSeal : Int) : CP T (n + 5) 56 [.i .i64 before, .agg [.i .i64 xxThing, .i .i64 xxHolder, .i .i64 xxWho, .i .i64 xxAt, .i .i64 xxSeal]] = (spec_HandSeal before (⟨xxThing, xxHolder, xxWho, xxAt, xxSeal⟩ : Hand)).map fun r => .i .i64 r := by
  rw [CP_eq]
  simp -dsimp +contextual only [↓evA, evB, evT, tys, encs, Nat.reduceAdd, Nat.reduceMul, Nat.reduceBEq, Nat.reduceLeDiff, Nat.reduceLT, Try.func56, Try.f56, a56, TP, orc_p, orc_l, e_spec_Hash]
  try simp only [spec_HandSeal, evT, encs, c_js, r_map_some, e_need_t]
  all_goals rfl
theorem e_spec_l16Last_l3 (n : Nat) {R1} {l : List Hand} (thing : Int) (before : Int) (k : Int) (i : Int) [H1 : EncL cHand R1 l] : LP T (n + 1) 57 3 (frm [(0, .imm 5 R1), (1, .i .i64 thing), (2, .i .i64 before), (7, .i .i64 k), (8, .i .i64 i)]) [] =
    (run (spec_l16Last_l3 l thing before) (k, i)).map (fun (r : Int) => (XE.exit 0, frm [(7, .i .i64 r)], [])) := by
  obtain ⟨rfl⟩ := H1
  rw [LP_eq]
  simp -dsimp only [↓evA, evB, lpG_eq, Try.func57, Try.f57, a57, TP, Nat.reduceAdd, Nat.reduceMul, Nat.reduceBEq, Nat.reduceLeDiff, Nat.reduceLT]
  refine run_map (fun (s : Int × Int) => (frm [(0, .imm 5 (l.map cHand)), (1, .i .i64 thing), (2, .i .i64 before), (7, .i .i64 s.1), (8, .i .i64 s.2)], [])) (fun (r : Int) => (XE.exit 0, frm [(7, .i .i64 r)], [])) ?_ (k, i)
  rintro ⟨k, i⟩
  simp -dsimp +contextual only [↓evA, evB, evT, tys, encs, Nat.reduceAdd, Nat.reduceMul, Nat.reduceBEq, Nat.reduceLeDiff, Nat.reduceLT, TP, orc_p, orc_l]
  try simp only [spec_l16Last_l3, evT, encs, c_js, r_map_some, e_need_t]
  all_goals rfl
theorem e_spec_l16Last (n : Nat) {R1} {l : List Hand} (thing : Int) (before : Int) [H1 : EncL cHand R1 l] : CP T (n + 2) 57 [.imm 5 R1, .i .i64 thing, .i .i64 before] = (spec_l16Last l thing before).map fun r => .i .i64 r := by
  obtain ⟨rfl⟩ := H1
  rw [CP_eq]
  simp -dsimp +contextual only [↓evA, evB, evT, tys, encs, Nat.reduceAdd, Nat.reduceMul, Nat.reduceBEq, Nat.reduceLeDiff, Nat.reduceLT, Try.func57, Try.f57, a57, TP, orc_p, orc_l, e_spec_l16Last_l3]
  try simp only [spec_l16Last, evT, encs, c_js, r_map_some, e_need_t]
  all_goals rfl
theorem e_spec_IsChain_l3 (n : Nat) {R1} {l : List Hand} (t3 : Int) (t4 : Int) [H1 : EncL cHand R1 l] : LP T (n + 6) 44 3 (frm [(0, .imm 5 R1), (3, .i .i64 t3), (4, .i .i64 t4)]) [] =
    lmap (run (spec_IsChain_l3 l) (t3, t4)) (fun (r : Bool) => (XE.ret, frm [(2, .b r)], [])) (fun (r : Unit) => (XE.exit 0, frm [(0, .imm 5 (l.map cHand))], [])) := by
  obtain ⟨rfl⟩ := H1
  rw [LP_eq]
  simp -dsimp only [↓evA, evB, lpG_eq, Try.func44, Try.f44, a44, TP, Nat.reduceAdd, Nat.reduceMul, Nat.reduceBEq, Nat.reduceLeDiff, Nat.reduceLT]
  refine run_map (fun (s : Int × Int) => (frm [(0, .imm 5 (l.map cHand)), (3, .i .i64 s.1), (4, .i .i64 s.2)], [])) (evO (fun (r : Bool) => (XE.ret, frm [(2, .b r)], [])) (fun (r : Unit) => (XE.exit 0, frm [(0, .imm 5 (l.map cHand))], []))) ?_ (t3, t4)
  rintro ⟨t3, t4⟩
  simp -dsimp +contextual only [↓evA, evB, evT, tys, encs, Nat.reduceAdd, Nat.reduceMul, Nat.reduceBEq, Nat.reduceLeDiff, Nat.reduceLT, TP, orc_p, orc_l, e_spec_HandSeal, e_spec_l1In, e_spec_l16Last]
  try simp only [spec_IsChain_l3, evT, encs, c_js, r_map_some, e_need_t]
  all_goals rfl
theorem e_spec_IsChain (n : Nat) {R1} {l : List Hand} [H1 : EncL cHand R1 l] : CP T (n + 7) 44 [.imm 5 R1] = (spec_IsChain l).map fun r => .b r := by
  obtain ⟨rfl⟩ := H1
  rw [CP_eq]
  simp -dsimp +contextual only [↓evA, evB, evT, tys, encs, Nat.reduceAdd, Nat.reduceMul, Nat.reduceBEq, Nat.reduceLeDiff, Nat.reduceLT, Try.func44, Try.f44, a44, TP, orc_p, orc_l, e_spec_IsChain_l3]
  try simp only [spec_IsChain, evT, encs, c_js, r_map_some, e_need_t]
  all_goals rfl
theorem e_spec_StayHours_l4 (n : Nat) {R1} {l : List Hand} (now : Int) (vn : Int) {R2} {vh : List Hand} (i : Int) [H1 : EncL cHand R1 l] [H2 : EncL cHand R2 vh] : LP T (n + 8) 23 4 (frm [(0, .imm 5 R1), (2, .i .i64 now), (7, .i .i64 vn), (8, .sl 0), (9, .i .i64 i)]) [some (Ent.lst 5 R2)] =
    (run (spec_StayHours_l4 l now vh) (vn, i)).map (fun (r : Int) => (XE.exit 0, frm [(7, .i .i64 r)], [])) := by
  obtain ⟨rfl⟩ := H1
  obtain ⟨rfl⟩ := H2
  rw [LP_eq]
  simp -dsimp only [↓evA, evB, lpG_eq, Try.func23, Try.f23, a23, TP, Nat.reduceAdd, Nat.reduceMul, Nat.reduceBEq, Nat.reduceLeDiff, Nat.reduceLT]
  refine run_map (fun (s : Int × Int) => (frm [(0, .imm 5 (l.map cHand)), (2, .i .i64 now), (7, .i .i64 s.1), (8, .sl 0), (9, .i .i64 s.2)], [some (Ent.lst 5 (vh.map cHand))])) (fun (r : Int) => (XE.exit 0, frm [(7, .i .i64 r)], [])) ?_ (vn, i)
  rintro ⟨vn, i⟩
  simp -dsimp +contextual only [↓evA, evB, evT, tys, encs, Nat.reduceAdd, Nat.reduceMul, Nat.reduceBEq, Nat.reduceLeDiff, Nat.reduceLT, TP, orc_p, orc_l, e_spec_IsChain, e_spec_l1In, e_spec_Min, e_spec_Max]
  try simp only [spec_StayHours_l4, evT, encs, c_js, r_map_some, e_need_t]
  all_goals rfl
theorem e_spec_StayHours (n : Nat) {R1} {l : List Hand} (thing : Int) (now : Int) [H1 : EncL cHand R1 l] : CP T (n + 9) 23 [.imm 5 R1, .i .i64 thing, .i .i64 now] = (spec_StayHours l thing now).map fun r => .i .i64 r := by
  obtain ⟨rfl⟩ := H1
  rw [CP_eq]
  simp -dsimp +contextual only [↓evA, evB, evT, tys, encs, Nat.reduceAdd, Nat.reduceMul, Nat.reduceBEq, Nat.reduceLeDiff, Nat.reduceLT, Try.func23, Try.f23, a23, TP, orc_p, orc_l, e_spec_HandsOf, e_spec_StayHours_l4]
  try simp only [spec_StayHours, evT, encs, c_js, r_map_some, e_need_t]
  all_goals rfl
theorem e_impl_Mod (n : Nat) (p : Int) (q : Int) : CP T (n + 2) 75 [.i .i64 p, .i .i64 q] = (impl_Mod p q).map fun r => .i .i64 r := by
  rw [CP_eq]
  simp -dsimp +contextual only [↓evA, evB, evT, tys, encs, Nat.reduceAdd, Nat.reduceMul, Nat.reduceBEq, Nat.reduceLeDiff, Nat.reduceLT, Try.func75, Try.f75, a75, TP, orc_p, orc_l, e_impl_InRange]
  try simp only [impl_Mod, evT, encs, c_js, r_map_some, e_need_t]
  all_goals rfl
theorem e_impl_fold (n : Nat) (acc : Int) (v : Int) : CP T (n + 3) 74 [.i .i64 acc, .i .i64 v] = (impl_fold acc v).map fun r => .i .i64 r := by
  rw [CP_eq]
  simp -dsimp +contextual only [↓evA, evB, evT, tys, encs, Nat.reduceAdd, Nat.reduceMul, Nat.reduceBEq, Nat.reduceLeDiff, Nat.reduceLT, Try.func74, Try.f74, a74, TP, orc_p, orc_l, e_impl_Mod]
  try simp only [impl_fold, evT, encs, c_js, r_map_some, e_need_t]
  all_goals rfl
theorem e_impl_Hash_l3 (n : Nat) (acc : Int) {R1} {t6 : List Int} (t7 : Int) (t8 : Int) [H1 : EncL c_i64 R1 t6] : LP T (n + 4) 68 3 (frm [(3, .i .i64 acc), (6, .imm 1 R1), (7, .i .i64 t7), (8, .i .i64 t8)]) [] =
    (run (impl_Hash_l3 t6 t7) (acc, t8)).map (fun (r : Int) => (XE.exit 0, frm [(3, .i .i64 r)], [])) := by
  obtain ⟨rfl⟩ := H1
  rw [LP_eq]
  simp -dsimp only [↓evA, evB, lpG_eq, Try.func68, Try.f68, a68, TP, Nat.reduceAdd, Nat.reduceMul, Nat.reduceBEq, Nat.reduceLeDiff, Nat.reduceLT]
  refine run_map (fun (s : Int × Int) => (frm [(3, .i .i64 s.1), (6, .imm 1 (t6.map c_i64)), (7, .i .i64 t7), (8, .i .i64 s.2)], [])) (fun (r : Int) => (XE.exit 0, frm [(3, .i .i64 r)], [])) ?_ (acc, t8)
  rintro ⟨acc, t8⟩
  simp -dsimp +contextual only [↓evA, evB, evT, tys, encs, Nat.reduceAdd, Nat.reduceMul, Nat.reduceBEq, Nat.reduceLeDiff, Nat.reduceLT, TP, orc_p, orc_l, e_impl_fold]
  try simp only [impl_Hash_l3, evT, encs, c_js, r_map_some, e_need_t]
  all_goals rfl
theorem e_impl_Hash (n : Nat) {R1} {values : List Int} [H1 : EncL c_i64 R1 values] : CP T (n + 5) 68 [.imm 1 R1] = (impl_Hash values).map fun r => .i .i64 r := by
  obtain ⟨rfl⟩ := H1
  rw [CP_eq]
  simp -dsimp +contextual only [↓evA, evB, evT, tys, encs, Nat.reduceAdd, Nat.reduceMul, Nat.reduceBEq, Nat.reduceLeDiff, Nat.reduceLT, Try.func68, Try.f68, a68, TP, orc_p, orc_l, e_impl_Hash_l3]
  try simp only [impl_Hash, evT, encs, c_js, r_map_some, e_need_t]
  all_goals rfl
theorem e_impl_HandSeal (n : Nat) (before : Int) (xxThing : Int) (xxHolder : Int) (xxWho : Int) (xxAt : Int) (xxSeal : Int) : CP T (n + 6) 58 [.i .i64 before, .agg [.i .i64 xxThing, .i .i64 xxHolder, .i .i64 xxWho, .i .i64 xxAt, .i .i64 xxSeal]] = (impl_HandSeal before (⟨xxThing, xxHolder, xxWho, xxAt, xxSeal⟩ : Hand)).map fun r => .i .i64 r := by
  rw [CP_eq]
  simp -dsimp +contextual only [↓evA, evB, evT, tys, encs, Nat.reduceAdd, Nat.reduceMul, Nat.reduceBEq, Nat.reduceLeDiff, Nat.reduceLT, Try.func58, Try.f58, a58, TP, orc_p, orc_l, e_impl_Hash]
  try simp only [impl_HandSeal, evT, encs, c_js, r_map_some, e_need_t]
  all_goals rfl
theorem e_impl_IsChain_l5 (n : Nat) {R1} {l : List Hand} (t3 : Int) {R2} {t10 : List Hand} (t11 : Int) (t12 : Int) [H1 : EncL cHand R1 l] [H2 : EncL cHand R2 t10] : LP T (n + 7) 46 5 (frm [(0, .imm 5 R1), (3, .i .i64 t3), (10, .imm 5 R2), (11, .i .i64 t11), (12, .i .i64 t12)]) [] =
    lmap (run (impl_IsChain_l5 l t10 t11) (t3, t12)) (fun (r : Bool) => (XE.ret, frm [(2, .b r)], [])) (fun (r : Unit) => (XE.exit 0, frm [], [])) := by
  obtain ⟨rfl⟩ := H1
  obtain ⟨rfl⟩ := H2
  rw [LP_eq]
  simp -dsimp only [↓evA, evB, lpG_eq, Try.func46, Try.f46, a46, TP, Nat.reduceAdd, Nat.reduceMul, Nat.reduceBEq, Nat.reduceLeDiff, Nat.reduceLT]
  refine run_map (fun (s : Int × Int) => (frm [(0, .imm 5 (l.map cHand)), (3, .i .i64 s.1), (10, .imm 5 (t10.map cHand)), (11, .i .i64 t11), (12, .i .i64 s.2)], [])) (evO (fun (r : Bool) => (XE.ret, frm [(2, .b r)], [])) (fun (r : Unit) => (XE.exit 0, frm [], []))) ?_ (t3, t12)
  rintro ⟨t3, t12⟩
  simp -dsimp +contextual only [↓evA, evB, evT, tys, encs, Nat.reduceAdd, Nat.reduceMul, Nat.reduceBEq, Nat.reduceLeDiff, Nat.reduceLT, TP, orc_p, orc_l, e_impl_InRange, e_impl_HandSeal, e_impl_lastHand]
  try simp only [impl_IsChain_l5, evT, encs, c_js, r_map_some, e_need_t]
  all_goals rfl
theorem e_impl_IsChain (n : Nat) {R1} {l : List Hand} [H1 : EncL cHand R1 l] : CP T (n + 8) 46 [.imm 5 R1] = (impl_IsChain l).map fun r => .b r := by
  obtain ⟨rfl⟩ := H1
  rw [CP_eq]
  simp -dsimp +contextual only [↓evA, evB, evT, tys, encs, Nat.reduceAdd, Nat.reduceMul, Nat.reduceBEq, Nat.reduceLeDiff, Nat.reduceLT, Try.func46, Try.f46, a46, TP, orc_p, orc_l, e_impl_IsChain_l5]
  try simp only [impl_IsChain, evT, encs, c_js, r_map_some, e_need_t]
  all_goals rfl
theorem e_impl_HandsOf_l3 (n : Nat) (thing : Int) {R1} {out : List Hand} {R2} {t9 : List Hand} (t10 : Int) (t11 : Int) [H1 : EncL cHand R1 out] [H2 : EncL cHand R2 t9] : LP T (n + 1) 48 3 (frm [(1, .i .i64 thing), (5, .sl 0), (9, .imm 5 R2), (10, .i .i64 t10), (11, .i .i64 t11)]) [some (Ent.lst 5 R1)] =
    (run (impl_HandsOf_l3 thing t9 t10) (out, t11)).map (fun (r : (List Hand)) => (XE.exit 0, frm [(5, .sl 0)], [some (Ent.lst 5 (r.map cHand))])) := by
  obtain ⟨rfl⟩ := H1
  obtain ⟨rfl⟩ := H2
  rw [LP_eq]
  simp -dsimp only [↓evA, evB, lpG_eq, Try.func48, Try.f48, a48, TP, Nat.reduceAdd, Nat.reduceMul, Nat.reduceBEq, Nat.reduceLeDiff, Nat.reduceLT]
  refine run_map (fun (s : (List Hand) × Int) => (frm [(1, .i .i64 thing), (5, .sl 0), (9, .imm 5 (t9.map cHand)), (10, .i .i64 t10), (11, .i .i64 s.2)], [some (Ent.lst 5 (s.1.map cHand))])) (fun (r : (List Hand)) => (XE.exit 0, frm [(5, .sl 0)], [some (Ent.lst 5 (r.map cHand))])) ?_ (out, t11)
  rintro ⟨out, t11⟩
  simp -dsimp +contextual only [↓evA, evB, evT, tys, encs, Nat.reduceAdd, Nat.reduceMul, Nat.reduceBEq, Nat.reduceLeDiff, Nat.reduceLT, TP, orc_p, orc_l]
  try simp only [impl_HandsOf_l3, evT, encs, c_js, r_map_some, e_need_t]
  all_goals rfl
theorem e_impl_HandsOf (n : Nat) {R1} {l : List Hand} (thing : Int) [H1 : EncL cHand R1 l] : CP T (n + 2) 48 [.imm 5 R1, .i .i64 thing] = (impl_HandsOf l thing).map fun r => .own 5 (r.map cHand) := by
  obtain ⟨rfl⟩ := H1
  rw [CP_eq]
  simp -dsimp +contextual only [↓evA, evB, evT, tys, encs, Nat.reduceAdd, Nat.reduceMul, Nat.reduceBEq, Nat.reduceLeDiff, Nat.reduceLT, Try.func48, Try.f48, a48, TP, orc_p, orc_l, e_impl_HandsOf_l3]
  try simp only [impl_HandsOf, evT, encs, c_js, r_map_some, e_need_t]
  all_goals rfl
theorem e_impl_StayHours_l6 (n : Nat) (now : Int) (vn : Int) {R1} {hands : List Hand} (t25 : Int) (t26 : Int) [H1 : EncL cHand R1 hands] : LP T (n + 1) 24 6 (frm [(2, .i .i64 now), (7, .i .i64 vn), (8, .sl 0), (24, .sl 0), (25, .i .i64 t25), (26, .i .i64 t26)]) [some (Ent.lst 5 R1)] =
    (run (impl_StayHours_l6 now hands t25) (vn, t26)).map (fun (r : Int) => (XE.exit 0, frm [(7, .i .i64 r)], [])) := by
  obtain ⟨rfl⟩ := H1
  rw [LP_eq]
  simp -dsimp only [↓evA, evB, lpG_eq, Try.func24, Try.f24, a24, TP, Nat.reduceAdd, Nat.reduceMul, Nat.reduceBEq, Nat.reduceLeDiff, Nat.reduceLT]
  refine run_map (fun (s : Int × Int) => (frm [(2, .i .i64 now), (7, .i .i64 s.1), (8, .sl 0), (24, .sl 0), (25, .i .i64 t25), (26, .i .i64 s.2)], [some (Ent.lst 5 (hands.map cHand))])) (fun (r : Int) => (XE.exit 0, frm [(7, .i .i64 r)], [])) ?_ (vn, t26)
  rintro ⟨vn, t26⟩
  simp -dsimp +contextual only [↓evA, evB, evT, tys, encs, Nat.reduceAdd, Nat.reduceMul, Nat.reduceBEq, Nat.reduceLeDiff, Nat.reduceLT, TP, orc_p, orc_l]
  try simp only [impl_StayHours_l6, evT, encs, c_js, r_map_some, e_need_t]
  all_goals rfl
theorem e_impl_StayHours (n : Nat) {R1} {l : List Hand} (thing : Int) (now : Int) [H1 : EncL cHand R1 l] : CP T (n + 9) 24 [.imm 5 R1, .i .i64 thing, .i .i64 now] = (impl_StayHours l thing now).map fun r => .i .i64 r := by
  obtain ⟨rfl⟩ := H1
  rw [CP_eq]
  simp -dsimp +contextual only [↓evA, evB, evT, tys, encs, Nat.reduceAdd, Nat.reduceMul, Nat.reduceBEq, Nat.reduceLeDiff, Nat.reduceLT, Try.func24, Try.f24, a24, TP, orc_p, orc_l, e_impl_IsChain, e_impl_InRange, e_impl_HandsOf, e_impl_StayHours_l6]
  try simp only [impl_StayHours, evT, encs, c_js, r_map_some, e_need_t]
  all_goals rfl
theorem e_laws_FnExactStayHours (n : Nat) {R1} {aL : List Hand} (aThing : Int) (aNow : Int) [H1 : EncL cHand R1 aL] : CP T (n + 10) 7 [.imm 5 R1, .i .i64 aThing, .i .i64 aNow] = (laws_FnExactStayHours aL aThing aNow).map fun r => .b r := by
  obtain ⟨rfl⟩ := H1
  rw [CP_eq]
  simp -dsimp +contextual only [↓evA, evB, evT, tys, encs, Nat.reduceAdd, Nat.reduceMul, Nat.reduceBEq, Nat.reduceLeDiff, Nat.reduceLT, Try.func7, Try.f7, a7, TP, orc_p, orc_l, e_laws_szHandS, e_laws_toHandS, e_spec_StayHours, e_impl_StayHours, e_laws_eqHandS]
  try simp only [laws_FnExactStayHours, evT, encs, c_js, r_map_some, e_need_t]
  all_goals rfl
theorem e_laws_szMarkS (n : Nat) {R1} {a : List Mark} (left : Int) [H1 : EncL cMark R1 a] : CP T (n + 1) 59 [.imm 2 R1, .i .i64 left] = (laws_szMarkS a left).map fun r => .i .i64 r := by
  obtain ⟨rfl⟩ := H1
  rw [CP_eq]
  simp -dsimp +contextual only [↓evA, evB, evT, tys, encs, Nat.reduceAdd, Nat.reduceMul, Nat.reduceBEq, Nat.reduceLeDiff, Nat.reduceLT, Try.func59, Try.f59, a59, TP, orc_p, orc_l]
  try simp only [laws_szMarkS, evT, encs, c_js, r_map_some, e_need_t]
  all_goals rfl
theorem e_laws_szBidS (n : Nat) {R1} {a : List Bid} (left : Int) [H1 : EncL cBid R1 a] : CP T (n + 1) 60 [.imm 3 R1, .i .i64 left] = (laws_szBidS a left).map fun r => .i .i64 r := by
  obtain ⟨rfl⟩ := H1
  rw [CP_eq]
  simp -dsimp +contextual only [↓evA, evB, evT, tys, encs, Nat.reduceAdd, Nat.reduceMul, Nat.reduceBEq, Nat.reduceLeDiff, Nat.reduceLT, Try.func60, Try.f60, a60, TP, orc_p, orc_l]
  try simp only [laws_szBidS, evT, encs, c_js, r_map_some, e_need_t]
  all_goals rfl
theorem e_laws_szEvent (n : Nat) (axKind : Int) (axFindxThingxId : Int) (axFindxThingxKind : Int) (axFindxThingxColour : Int) (axFindxThingxSize : Int) (axFindxThingxWorth : Int) (axFindxPlace : Int) (axFindxAt : Int) (axFindxFinder : Int) {R1} {axMarks : List Mark} (axId : Int) (axWho : Int) (axN : Int) {R2} {axBids : List Bid} (left : Int) [H1 : EncL cMark R1 axMarks] [H2 : EncL cBid R2 axBids] : CP T (n + 2) 49 [.agg [.i .i64 axKind, .i .i64 axFindxThingxId, .i .i64 axFindxThingxKind, .i .i64 axFindxThingxColour, .i .i64 axFindxThingxSize, .i .i64 axFindxThingxWorth, .i .i64 axFindxPlace, .i .i64 axFindxAt, .i .i64 axFindxFinder, .imm 2 R1, .i .i64 axId, .i .i64 axWho, .i .i64 axN, .imm 3 R2], .i .i64 left] = (laws_szEvent (⟨axKind, ⟨⟨axFindxThingxId, axFindxThingxKind, axFindxThingxColour, axFindxThingxSize, axFindxThingxWorth⟩, axFindxPlace, axFindxAt, axFindxFinder⟩, axMarks, axId, axWho, axN, axBids⟩ : Event) left).map fun r => .i .i64 r := by
  obtain ⟨rfl⟩ := H1
  obtain ⟨rfl⟩ := H2
  rw [CP_eq]
  simp -dsimp +contextual only [↓evA, evB, evT, tys, encs, Nat.reduceAdd, Nat.reduceMul, Nat.reduceBEq, Nat.reduceLeDiff, Nat.reduceLT, Try.func49, Try.f49, a49, TP, orc_p, orc_l, e_laws_szMarkS, e_laws_szBidS]
  try simp only [laws_szEvent, evT, encs, c_js, r_map_some, e_need_t]
  all_goals rfl
theorem e_laws_szEventS_l5 (n : Nat) {R1} {a : List Event} (left : Int) (i : Int) [H1 : EncL cEvent R1 a] : LP T (n + 3) 25 5 (frm [(0, .imm 14 R1), (1, .i .i64 left), (5, .i .i64 i)]) [] =
    lmap (run (laws_szEventS_l5 a) (left, i)) (fun (r : Int) => (XE.ret, frm [(4, .i .i64 r)], [])) (fun (r : Int) => (XE.exit 0, frm [(1, .i .i64 r)], [])) := by
  obtain ⟨rfl⟩ := H1
  rw [LP_eq]
  simp -dsimp only [↓evA, evB, lpG_eq, Try.func25, Try.f25, a25, TP, Nat.reduceAdd, Nat.reduceMul, Nat.reduceBEq, Nat.reduceLeDiff, Nat.reduceLT]
  refine run_map (fun (s : Int × Int) => (frm [(0, .imm 14 (a.map cEvent)), (1, .i .i64 s.1), (5, .i .i64 s.2)], [])) (evO (fun (r : Int) => (XE.ret, frm [(4, .i .i64 r)], [])) (fun (r : Int) => (XE.exit 0, frm [(1, .i .i64 r)], []))) ?_ (left, i)
  rintro ⟨left, i⟩
  simp -dsimp +contextual only [↓evA, evB, evT, tys, encs, Nat.reduceAdd, Nat.reduceMul, Nat.reduceBEq, Nat.reduceLeDiff, Nat.reduceLT, TP, orc_p, orc_l, e_laws_szEvent]
  try simp only [laws_szEventS_l5, evT, encs, c_js, r_map_some, e_need_t]
  all_goals rfl
theorem e_laws_szEventS (n : Nat) {R1} {a : List Event} (left : Int) [H1 : EncL cEvent R1 a] : CP T (n + 4) 25 [.imm 14 R1, .i .i64 left] = (laws_szEventS a left).map fun r => .i .i64 r := by
  obtain ⟨rfl⟩ := H1
  rw [CP_eq]
  simp -dsimp +contextual only [↓evA, evB, evT, tys, encs, Nat.reduceAdd, Nat.reduceMul, Nat.reduceBEq, Nat.reduceLeDiff, Nat.reduceLT, Try.func25, Try.f25, a25, TP, orc_p, orc_l, e_laws_szEventS_l5]
  try simp only [laws_szEventS, evT, encs, c_js, r_map_some, e_need_t]
  all_goals rfl
theorem e_laws_toMark (n : Nat) (axQuestion : Int) (axAnswer : Int) : CP T (n + 1) 69 [.agg [.i .i64 axQuestion, .i .i64 axAnswer]] = (laws_toMark (⟨axQuestion, axAnswer⟩ : Mark)).map fun r => .agg (cMark r) := by
  rw [CP_eq]
  simp -dsimp +contextual only [↓evA, evB, evT, tys, encs, Nat.reduceAdd, Nat.reduceMul, Nat.reduceBEq, Nat.reduceLeDiff, Nat.reduceLT, Try.func69, Try.f69, a69, TP, orc_p, orc_l]
  try simp only [laws_toMark, evT, encs, c_js, r_map_some, e_need_t]
  all_goals rfl
theorem e_laws_toMarkS_l3 (n : Nat) {R1} {a : List Mark} {R2} {out : List Mark} (i : Int) [H1 : EncL cMark R1 a] [H2 : EncL cMark R2 out] : LP T (n + 2) 61 3 (frm [(0, .imm 2 R1), (3, .sl 0), (4, .i .i64 i)]) [some (Ent.lst 2 R2)] =
    (run (laws_toMarkS_l3 a) (out, i)).map (fun (r : (List Mark)) => (XE.exit 0, frm [(3, .sl 0)], [some (Ent.lst 2 (r.map cMark))])) := by
  obtain ⟨rfl⟩ := H1
  obtain ⟨rfl⟩ := H2
  rw [LP_eq]
  simp -dsimp only [↓evA, evB, lpG_eq, Try.func61, Try.f61, a61, TP, Nat.reduceAdd, Nat.reduceMul, Nat.reduceBEq, Nat.reduceLeDiff, Nat.reduceLT]
  refine run_map (fun (s : (List Mark) × Int) => (frm [(0, .imm 2 (a.map cMark)), (3, .sl 0), (4, .i .i64 s.2)], [some (Ent.lst 2 (s.1.map cMark))])) (fun (r : (List Mark)) => (XE.exit 0, frm [(3, .sl 0)], [some (Ent.lst 2 (r.map cMark))])) ?_ (out, i)
  rintro ⟨out, i⟩
  simp -dsimp +contextual only [↓evA, evB, evT, tys, encs, Nat.reduceAdd, Nat.reduceMul, Nat.reduceBEq, Nat.reduceLeDiff, Nat.reduceLT, TP, orc_p, orc_l, e_laws_toMark]
  try simp only [laws_toMarkS_l3, evT, encs, c_js, r_map_some, e_need_t]
  all_goals rfl
theorem e_laws_toMarkS (n : Nat) {R1} {a : List Mark} [H1 : EncL cMark R1 a] : CP T (n + 3) 61 [.imm 2 R1] = (laws_toMarkS a).map fun r => .own 2 (r.map cMark) := by
  obtain ⟨rfl⟩ := H1
  rw [CP_eq]
  simp -dsimp +contextual only [↓evA, evB, evT, tys, encs, Nat.reduceAdd, Nat.reduceMul, Nat.reduceBEq, Nat.reduceLeDiff, Nat.reduceLT, Try.func61, Try.f61, a61, TP, orc_p, orc_l, e_laws_toMarkS_l3]
  try simp only [laws_toMarkS, evT, encs, c_js, r_map_some, e_need_t]
  all_goals rfl
theorem e_laws_toBid (n : Nat) (axWho : Int) (axCents : Int) (axSeal : Int) : CP T (n + 1) 70 [.agg [.i .i64 axWho, .i .i64 axCents, .i .i64 axSeal]] = (laws_toBid (⟨axWho, axCents, axSeal⟩ : Bid)).map fun r => .agg (cBid r) := by
  rw [CP_eq]
  simp -dsimp +contextual only [↓evA, evB, evT, tys, encs, Nat.reduceAdd, Nat.reduceMul, Nat.reduceBEq, Nat.reduceLeDiff, Nat.reduceLT, Try.func70, Try.f70, a70, TP, orc_p, orc_l]
  try simp only [laws_toBid, evT, encs, c_js, r_map_some, e_need_t]
  all_goals rfl
theorem e_laws_toBidS_l3 (n : Nat) {R1} {a : List Bid} {R2} {out : List Bid} (i : Int) [H1 : EncL cBid R1 a] [H2 : EncL cBid R2 out] : LP T (n + 2) 62 3 (frm [(0, .imm 3 R1), (3, .sl 0), (4, .i .i64 i)]) [some (Ent.lst 3 R2)] =
    (run (laws_toBidS_l3 a) (out, i)).map (fun (r : (List Bid)) => (XE.exit 0, frm [(3, .sl 0)], [some (Ent.lst 3 (r.map cBid))])) := by
  obtain ⟨rfl⟩ := H1
  obtain ⟨rfl⟩ := H2
  rw [LP_eq]
  simp -dsimp only [↓evA, evB, lpG_eq, Try.func62, Try.f62, a62, TP, Nat.reduceAdd, Nat.reduceMul, Nat.reduceBEq, Nat.reduceLeDiff, Nat.reduceLT]
  refine run_map (fun (s : (List Bid) × Int) => (frm [(0, .imm 3 (a.map cBid)), (3, .sl 0), (4, .i .i64 s.2)], [some (Ent.lst 3 (s.1.map cBid))])) (fun (r : (List Bid)) => (XE.exit 0, frm [(3, .sl 0)], [some (Ent.lst 3 (r.map cBid))])) ?_ (out, i)
  rintro ⟨out, i⟩
  simp -dsimp +contextual only [↓evA, evB, evT, tys, encs, Nat.reduceAdd, Nat.reduceMul, Nat.reduceBEq, Nat.reduceLeDiff, Nat.reduceLT, TP, orc_p, orc_l, e_laws_toBid]
  try simp only [laws_toBidS_l3, evT, encs, c_js, r_map_some, e_need_t]
  all_goals rfl
theorem e_laws_toBidS (n : Nat) {R1} {a : List Bid} [H1 : EncL cBid R1 a] : CP T (n + 3) 62 [.imm 3 R1] = (laws_toBidS a).map fun r => .own 3 (r.map cBid) := by
  obtain ⟨rfl⟩ := H1
  rw [CP_eq]
  simp -dsimp +contextual only [↓evA, evB, evT, tys, encs, Nat.reduceAdd, Nat.reduceMul, Nat.reduceBEq, Nat.reduceLeDiff, Nat.reduceLT, Try.func62, Try.f62, a62, TP, orc_p, orc_l, e_laws_toBidS_l3]
  try simp only [laws_toBidS, evT, encs, c_js, r_map_some, e_need_t]
  all_goals rfl
theorem e_laws_toEvent (n : Nat) (axKind : Int) (axFindxThingxId : Int) (axFindxThingxKind : Int) (axFindxThingxColour : Int) (axFindxThingxSize : Int) (axFindxThingxWorth : Int) (axFindxPlace : Int) (axFindxAt : Int) (axFindxFinder : Int) {R1} {axMarks : List Mark} (axId : Int) (axWho : Int) (axN : Int) {R2} {axBids : List Bid} [H1 : EncL cMark R1 axMarks] [H2 : EncL cBid R2 axBids] : CP T (n + 4) 50 [.agg [.i .i64 axKind, .i .i64 axFindxThingxId, .i .i64 axFindxThingxKind, .i .i64 axFindxThingxColour, .i .i64 axFindxThingxSize, .i .i64 axFindxThingxWorth, .i .i64 axFindxPlace, .i .i64 axFindxAt, .i .i64 axFindxFinder, .imm 2 R1, .i .i64 axId, .i .i64 axWho, .i .i64 axN, .imm 3 R2]] = (laws_toEvent (⟨axKind, ⟨⟨axFindxThingxId, axFindxThingxKind, axFindxThingxColour, axFindxThingxSize, axFindxThingxWorth⟩, axFindxPlace, axFindxAt, axFindxFinder⟩, axMarks, axId, axWho, axN, axBids⟩ : Event)).map fun r => .agg (cEventO r) := by
  obtain ⟨rfl⟩ := H1
  obtain ⟨rfl⟩ := H2
  rw [CP_eq]
  simp -dsimp +contextual only [↓evA, evB, evT, tys, encs, Nat.reduceAdd, Nat.reduceMul, Nat.reduceBEq, Nat.reduceLeDiff, Nat.reduceLT, Try.func50, Try.f50, a50, TP, orc_p, orc_l, e_laws_toFind, e_laws_toMarkS, e_laws_toBidS]
  try simp only [laws_toEvent, evT, encs, c_js, r_map_some, e_need_t]
  all_goals rfl
theorem e_laws_toEventS_l3 (n : Nat) {R1} {a : List Event} {R2} {out : List Event} (i : Int) [H1 : EncL cEvent R1 a] [H2 : EncL cEventO R2 out] : LP T (n + 5) 27 3 (frm [(0, .imm 14 R1), (3, .sl 0), (4, .i .i64 i)]) [some (Ent.lst 14 R2)] =
    (run (laws_toEventS_l3 a) (out, i)).map (fun (r : (List Event)) => (XE.exit 0, frm [(3, .sl 0)], [some (Ent.lst 14 (r.map cEventO))])) := by
  obtain ⟨rfl⟩ := H1
  obtain ⟨rfl⟩ := H2
  rw [LP_eq]
  simp -dsimp only [↓evA, evB, lpG_eq, Try.func27, Try.f27, a27, TP, Nat.reduceAdd, Nat.reduceMul, Nat.reduceBEq, Nat.reduceLeDiff, Nat.reduceLT]
  refine run_map (fun (s : (List Event) × Int) => (frm [(0, .imm 14 (a.map cEvent)), (3, .sl 0), (4, .i .i64 s.2)], [some (Ent.lst 14 (s.1.map cEventO))])) (fun (r : (List Event)) => (XE.exit 0, frm [(3, .sl 0)], [some (Ent.lst 14 (r.map cEventO))])) ?_ (out, i)
  rintro ⟨out, i⟩
  simp -dsimp +contextual only [↓evA, evB, evT, tys, encs, Nat.reduceAdd, Nat.reduceMul, Nat.reduceBEq, Nat.reduceLeDiff, Nat.reduceLT, TP, orc_p, orc_l, e_laws_toEvent]
  try simp only [laws_toEventS_l3, evT, encs, c_js, r_map_some, e_need_t]
  all_goals rfl
theorem e_laws_toEventS (n : Nat) {R1} {a : List Event} [H1 : EncL cEvent R1 a] : CP T (n + 6) 27 [.imm 14 R1] = (laws_toEventS a).map fun r => .own 14 (r.map cEventO) := by
  obtain ⟨rfl⟩ := H1
  rw [CP_eq]
  simp -dsimp +contextual only [↓evA, evB, evT, tys, encs, Nat.reduceAdd, Nat.reduceMul, Nat.reduceBEq, Nat.reduceLeDiff, Nat.reduceLT, Try.func27, Try.f27, a27, TP, orc_p, orc_l, e_laws_toEventS_l3]
  try simp only [laws_toEventS, evT, encs, c_js, r_map_some, e_need_t]
  all_goals rfl
theorem e_spec_CountEvents_l3 (n : Nat) {R1} {list : List Event} (kind : Int) (vn : Int) (i : Int) [H1 : EncL cEvent R1 list] : LP T (n + 1) 26 3 (frm [(0, .imm 14 R1), (1, .i .i64 kind), (5, .i .i64 vn), (6, .i .i64 i)]) [] =
    (run (spec_CountEvents_l3 list kind) (vn, i)).map (fun (r : Int) => (XE.exit 0, frm [(5, .i .i64 r)], [])) := by
  obtain ⟨rfl⟩ := H1
  rw [LP_eq]
  simp -dsimp only [↓evA, evB, lpG_eq, Try.func26, Try.f26, a26, TP, Nat.reduceAdd, Nat.reduceMul, Nat.reduceBEq, Nat.reduceLeDiff, Nat.reduceLT]
  refine run_map (fun (s : Int × Int) => (frm [(0, .imm 14 (list.map cEvent)), (1, .i .i64 kind), (5, .i .i64 s.1), (6, .i .i64 s.2)], [])) (fun (r : Int) => (XE.exit 0, frm [(5, .i .i64 r)], [])) ?_ (vn, i)
  rintro ⟨vn, i⟩
  simp -dsimp +contextual only [↓evA, evB, evT, tys, encs, Nat.reduceAdd, Nat.reduceMul, Nat.reduceBEq, Nat.reduceLeDiff, Nat.reduceLT, TP, orc_p, orc_l]
  try simp only [spec_CountEvents_l3, evT, encs, c_js, r_map_some, e_need_t]
  all_goals rfl
theorem e_spec_CountEvents (n : Nat) {R1} {list : List Event} (kind : Int) [H1 : EncL cEvent R1 list] : CP T (n + 2) 26 [.imm 14 R1, .i .i64 kind] = (spec_CountEvents list kind).map fun r => .i .i64 r := by
  obtain ⟨rfl⟩ := H1
  rw [CP_eq]
  simp -dsimp +contextual only [↓evA, evB, evT, tys, encs, Nat.reduceAdd, Nat.reduceMul, Nat.reduceBEq, Nat.reduceLeDiff, Nat.reduceLT, Try.func26, Try.f26, a26, TP, orc_p, orc_l, e_spec_CountEvents_l3]
  try simp only [spec_CountEvents, evT, encs, c_js, r_map_some, e_need_t]
  all_goals rfl
theorem e_impl_CountEvents_l3 (n : Nat) (kind : Int) (vn : Int) {R1} {t8 : List Event} (t9 : Int) (t10 : Int) [H1 : EncL cEvent R1 t8] : LP T (n + 1) 28 3 (frm [(1, .i .i64 kind), (5, .i .i64 vn), (8, .imm 14 R1), (9, .i .i64 t9), (10, .i .i64 t10)]) [] =
    (run (impl_CountEvents_l3 kind t8 t9) (vn, t10)).map (fun (r : Int) => (XE.exit 0, frm [(5, .i .i64 r)], [])) := by
  obtain ⟨rfl⟩ := H1
  rw [LP_eq]
  simp -dsimp only [↓evA, evB, lpG_eq, Try.func28, Try.f28, a28, TP, Nat.reduceAdd, Nat.reduceMul, Nat.reduceBEq, Nat.reduceLeDiff, Nat.reduceLT]
  refine run_map (fun (s : Int × Int) => (frm [(1, .i .i64 kind), (5, .i .i64 s.1), (8, .imm 14 (t8.map cEvent)), (9, .i .i64 t9), (10, .i .i64 s.2)], [])) (fun (r : Int) => (XE.exit 0, frm [(5, .i .i64 r)], [])) ?_ (vn, t10)
  rintro ⟨vn, t10⟩
  simp -dsimp +contextual only [↓evA, evB, evT, tys, encs, Nat.reduceAdd, Nat.reduceMul, Nat.reduceBEq, Nat.reduceLeDiff, Nat.reduceLT, TP, orc_p, orc_l]
  try simp only [impl_CountEvents_l3, evT, encs, c_js, r_map_some, e_need_t]
  all_goals rfl
theorem e_impl_CountEvents (n : Nat) {R1} {list : List Event} (kind : Int) [H1 : EncL cEvent R1 list] : CP T (n + 2) 28 [.imm 14 R1, .i .i64 kind] = (impl_CountEvents list kind).map fun r => .i .i64 r := by
  obtain ⟨rfl⟩ := H1
  rw [CP_eq]
  simp -dsimp +contextual only [↓evA, evB, evT, tys, encs, Nat.reduceAdd, Nat.reduceMul, Nat.reduceBEq, Nat.reduceLeDiff, Nat.reduceLT, Try.func28, Try.f28, a28, TP, orc_p, orc_l, e_impl_CountEvents_l3]
  try simp only [impl_CountEvents, evT, encs, c_js, r_map_some, e_need_t]
  all_goals rfl
theorem e_laws_eqMark (n : Nat) (axQuestion : Int) (axAnswer : Int) (bxQuestion : Int) (bxAnswer : Int) : CP T (n + 1) 71 [.agg [.i .i64 axQuestion, .i .i64 axAnswer], .agg [.i .i64 bxQuestion, .i .i64 bxAnswer]] = (laws_eqMark (⟨axQuestion, axAnswer⟩ : Mark) (⟨bxQuestion, bxAnswer⟩ : Mark)).map fun r => .b r := by
  rw [CP_eq]
  simp -dsimp +contextual only [↓evA, evB, evT, tys, encs, Nat.reduceAdd, Nat.reduceMul, Nat.reduceBEq, Nat.reduceLeDiff, Nat.reduceLT, Try.func71, Try.f71, a71, TP, orc_p, orc_l]
  try simp only [laws_eqMark, evT, encs, c_js, r_map_some, e_need_t]
  all_goals rfl
theorem e_laws_eqMarkS_l4 (n : Nat) {R1} {a : List Mark} {R2} {b : List Mark} (i : Int) [H1 : EncL cMark R1 a] [H2 : EncL cMark R2 b] : LP T (n + 2) 63 4 (frm [(0, .imm 2 R1), (1, .imm 2 R2), (5, .i .i64 i)]) [] =
    lmap (run (laws_eqMarkS_l4 a b) i) (fun (r : Bool) => (XE.ret, frm [(4, .b r)], [])) (fun (r : Unit) => (XE.exit 0, frm [], [])) := by
  obtain ⟨rfl⟩ := H1
  obtain ⟨rfl⟩ := H2
  rw [LP_eq]
  simp -dsimp only [↓evA, evB, lpG_eq, Try.func63, Try.f63, a63, TP, Nat.reduceAdd, Nat.reduceMul, Nat.reduceBEq, Nat.reduceLeDiff, Nat.reduceLT]
  refine run_map (fun (s : Int) => (frm [(0, .imm 2 (a.map cMark)), (1, .imm 2 (b.map cMark)), (5, .i .i64 s)], [])) (evO (fun (r : Bool) => (XE.ret, frm [(4, .b r)], [])) (fun (r : Unit) => (XE.exit 0, frm [], []))) ?_ i
  intro i
  simp -dsimp +contextual only [↓evA, evB, evT, tys, encs, Nat.reduceAdd, Nat.reduceMul, Nat.reduceBEq, Nat.reduceLeDiff, Nat.reduceLT, TP, orc_p, orc_l, e_laws_eqMark]
  try simp only [laws_eqMarkS_l4, evT, encs, c_js, r_map_some, e_need_t]
  all_goals rfl
theorem e_laws_eqMarkS (n : Nat) {R1} {a : List Mark} {R2} {b : List Mark} [H1 : EncL cMark R1 a] [H2 : EncL cMark R2 b] : CP T (n + 3) 63 [.imm 2 R1, .imm 2 R2] = (laws_eqMarkS a b).map fun r => .b r := by
  obtain ⟨rfl⟩ := H1
  obtain ⟨rfl⟩ := H2
  rw [CP_eq]
  simp -dsimp +contextual only [↓evA, evB, evT, tys, encs, Nat.reduceAdd, Nat.reduceMul, Nat.reduceBEq, Nat.reduceLeDiff, Nat.reduceLT, Try.func63, Try.f63, a63, TP, orc_p, orc_l, e_laws_eqMarkS_l4]
  try simp only [laws_eqMarkS, evT, encs, c_js, r_map_some, e_need_t]
  all_goals rfl
theorem e_laws_eqBid (n : Nat) (axWho : Int) (axCents : Int) (axSeal : Int) (bxWho : Int) (bxCents : Int) (bxSeal : Int) : CP T (n + 1) 72 [.agg [.i .i64 axWho, .i .i64 axCents, .i .i64 axSeal], .agg [.i .i64 bxWho, .i .i64 bxCents, .i .i64 bxSeal]] = (laws_eqBid (⟨axWho, axCents, axSeal⟩ : Bid) (⟨bxWho, bxCents, bxSeal⟩ : Bid)).map fun r => .b r := by
  rw [CP_eq]
  simp -dsimp +contextual only [↓evA, evB, evT, tys, encs, Nat.reduceAdd, Nat.reduceMul, Nat.reduceBEq, Nat.reduceLeDiff, Nat.reduceLT, Try.func72, Try.f72, a72, TP, orc_p, orc_l]
  try simp only [laws_eqBid, evT, encs, c_js, r_map_some, e_need_t]
  all_goals rfl
theorem e_laws_eqBidS_l4 (n : Nat) {R1} {a : List Bid} {R2} {b : List Bid} (i : Int) [H1 : EncL cBid R1 a] [H2 : EncL cBid R2 b] : LP T (n + 2) 64 4 (frm [(0, .imm 3 R1), (1, .imm 3 R2), (5, .i .i64 i)]) [] =
    lmap (run (laws_eqBidS_l4 a b) i) (fun (r : Bool) => (XE.ret, frm [(4, .b r)], [])) (fun (r : Unit) => (XE.exit 0, frm [], [])) := by
  obtain ⟨rfl⟩ := H1
  obtain ⟨rfl⟩ := H2
  rw [LP_eq]
  simp -dsimp only [↓evA, evB, lpG_eq, Try.func64, Try.f64, a64, TP, Nat.reduceAdd, Nat.reduceMul, Nat.reduceBEq, Nat.reduceLeDiff, Nat.reduceLT]
  refine run_map (fun (s : Int) => (frm [(0, .imm 3 (a.map cBid)), (1, .imm 3 (b.map cBid)), (5, .i .i64 s)], [])) (evO (fun (r : Bool) => (XE.ret, frm [(4, .b r)], [])) (fun (r : Unit) => (XE.exit 0, frm [], []))) ?_ i
  intro i
  simp -dsimp +contextual only [↓evA, evB, evT, tys, encs, Nat.reduceAdd, Nat.reduceMul, Nat.reduceBEq, Nat.reduceLeDiff, Nat.reduceLT, TP, orc_p, orc_l, e_laws_eqBid]
  try simp only [laws_eqBidS_l4, evT, encs, c_js, r_map_some, e_need_t]
  all_goals rfl
theorem e_laws_eqBidS (n : Nat) {R1} {a : List Bid} {R2} {b : List Bid} [H1 : EncL cBid R1 a] [H2 : EncL cBid R2 b] : CP T (n + 3) 64 [.imm 3 R1, .imm 3 R2] = (laws_eqBidS a b).map fun r => .b r := by
  obtain ⟨rfl⟩ := H1
  obtain ⟨rfl⟩ := H2
  rw [CP_eq]
  simp -dsimp +contextual only [↓evA, evB, evT, tys, encs, Nat.reduceAdd, Nat.reduceMul, Nat.reduceBEq, Nat.reduceLeDiff, Nat.reduceLT, Try.func64, Try.f64, a64, TP, orc_p, orc_l, e_laws_eqBidS_l4]
  try simp only [laws_eqBidS, evT, encs, c_js, r_map_some, e_need_t]
  all_goals rfl
theorem e_laws_eqEvent (n : Nat) (axKind : Int) (axFindxThingxId : Int) (axFindxThingxKind : Int) (axFindxThingxColour : Int) (axFindxThingxSize : Int) (axFindxThingxWorth : Int) (axFindxPlace : Int) (axFindxAt : Int) (axFindxFinder : Int) {R1} {axMarks : List Mark} (axId : Int) (axWho : Int) (axN : Int) {R2} {axBids : List Bid} (bxKind : Int) (bxFindxThingxId : Int) (bxFindxThingxKind : Int) (bxFindxThingxColour : Int) (bxFindxThingxSize : Int) (bxFindxThingxWorth : Int) (bxFindxPlace : Int) (bxFindxAt : Int) (bxFindxFinder : Int) {R3} {bxMarks : List Mark} (bxId : Int) (bxWho : Int) (bxN : Int) {R4} {bxBids : List Bid} [H1 : EncL cMark R1 axMarks] [H2 : EncL cBid R2 axBids] [H3 : EncL cMark R3 bxMarks] [H4 : EncL cBid R4 bxBids] : CP T (n + 4) 51 [.agg [.i .i64 axKind, .i .i64 axFindxThingxId, .i .i64 axFindxThingxKind, .i .i64 axFindxThingxColour, .i .i64 axFindxThingxSize, .i .i64 axFindxThingxWorth, .i .i64 axFindxPlace, .i .i64 axFindxAt, .i .i64 axFindxFinder, .imm 2 R1, .i .i64 axId, .i .i64 axWho, .i .i64 axN, .imm 3 R2], .agg [.i .i64 bxKind, .i .i64 bxFindxThingxId, .i .i64 bxFindxThingxKind, .i .i64 bxFindxThingxColour, .i .i64 bxFindxThingxSize, .i .i64 bxFindxThingxWorth, .i .i64 bxFindxPlace, .i .i64 bxFindxAt, .i .i64 bxFindxFinder, .imm 2 R3, .i .i64 bxId, .i .i64 bxWho, .i .i64 bxN, .imm 3 R4]] = (laws_eqEvent (⟨axKind, ⟨⟨axFindxThingxId, axFindxThingxKind, axFindxThingxColour, axFindxThingxSize, axFindxThingxWorth⟩, axFindxPlace, axFindxAt, axFindxFinder⟩, axMarks, axId, axWho, axN, axBids⟩ : Event) (⟨bxKind, ⟨⟨bxFindxThingxId, bxFindxThingxKind, bxFindxThingxColour, bxFindxThingxSize, bxFindxThingxWorth⟩, bxFindxPlace, bxFindxAt, bxFindxFinder⟩, bxMarks, bxId, bxWho, bxN, bxBids⟩ : Event)).map fun r => .b r := by
  obtain ⟨rfl⟩ := H1
  obtain ⟨rfl⟩ := H2
  obtain ⟨rfl⟩ := H3
  obtain ⟨rfl⟩ := H4
  rw [CP_eq]
  simp -dsimp +contextual only [↓evA, evB, evT, tys, encs, Nat.reduceAdd, Nat.reduceMul, Nat.reduceBEq, Nat.reduceLeDiff, Nat.reduceLT, Try.func51, Try.f51, a51, TP, orc_p, orc_l, e_laws_eqFind, e_laws_eqMarkS, e_laws_eqBidS]
  try simp only [laws_eqEvent, evT, encs, c_js, r_map_some, e_need_t]
  all_goals rfl
theorem e_laws_eqEventS_l4 (n : Nat) {R1} {a : List Event} {R2} {b : List Event} (i : Int) [H1 : EncL cEvent R1 a] [H2 : EncL cEvent R2 b] : LP T (n + 5) 29 4 (frm [(0, .imm 14 R1), (1, .imm 14 R2), (5, .i .i64 i)]) [] =
    lmap (run (laws_eqEventS_l4 a b) i) (fun (r : Bool) => (XE.ret, frm [(4, .b r)], [])) (fun (r : Unit) => (XE.exit 0, frm [], [])) := by
  obtain ⟨rfl⟩ := H1
  obtain ⟨rfl⟩ := H2
  rw [LP_eq]
  simp -dsimp only [↓evA, evB, lpG_eq, Try.func29, Try.f29, a29, TP, Nat.reduceAdd, Nat.reduceMul, Nat.reduceBEq, Nat.reduceLeDiff, Nat.reduceLT]
  refine run_map (fun (s : Int) => (frm [(0, .imm 14 (a.map cEvent)), (1, .imm 14 (b.map cEvent)), (5, .i .i64 s)], [])) (evO (fun (r : Bool) => (XE.ret, frm [(4, .b r)], [])) (fun (r : Unit) => (XE.exit 0, frm [], []))) ?_ i
  intro i
  simp -dsimp +contextual only [↓evA, evB, evT, tys, encs, Nat.reduceAdd, Nat.reduceMul, Nat.reduceBEq, Nat.reduceLeDiff, Nat.reduceLT, TP, orc_p, orc_l, e_laws_eqEvent]
  try simp only [laws_eqEventS_l4, evT, encs, c_js, r_map_some, e_need_t]
  all_goals rfl
theorem e_laws_eqEventS (n : Nat) {R1} {a : List Event} {R2} {b : List Event} [H1 : EncL cEvent R1 a] [H2 : EncL cEvent R2 b] : CP T (n + 6) 29 [.imm 14 R1, .imm 14 R2] = (laws_eqEventS a b).map fun r => .b r := by
  obtain ⟨rfl⟩ := H1
  obtain ⟨rfl⟩ := H2
  rw [CP_eq]
  simp -dsimp +contextual only [↓evA, evB, evT, tys, encs, Nat.reduceAdd, Nat.reduceMul, Nat.reduceBEq, Nat.reduceLeDiff, Nat.reduceLT, Try.func29, Try.f29, a29, TP, orc_p, orc_l, e_laws_eqEventS_l4]
  try simp only [laws_eqEventS, evT, encs, c_js, r_map_some, e_need_t]
  all_goals rfl
theorem e_laws_FnExactCountEvents (n : Nat) {R1} {aList : List Event} (aKind : Int) [H1 : EncL cEvent R1 aList] : CP T (n + 7) 8 [.imm 14 R1, .i .i64 aKind] = (laws_FnExactCountEvents aList aKind).map fun r => .b r := by
  obtain ⟨rfl⟩ := H1
  rw [CP_eq]
  simp -dsimp +contextual only [↓evA, evB, evT, tys, encs, Nat.reduceAdd, Nat.reduceMul, Nat.reduceBEq, Nat.reduceLeDiff, Nat.reduceLT, Try.func8, Try.f8, a8, TP, orc_p, orc_l, e_laws_szEventS, e_laws_toEventS, e_spec_CountEvents, e_impl_CountEvents, e_laws_eqEventS]
  try simp only [laws_FnExactCountEvents, evT, encs, c_js, r_map_some, e_need_t]
  all_goals rfl
end Go.Proofs.Ytomlnigcnkjelaa
