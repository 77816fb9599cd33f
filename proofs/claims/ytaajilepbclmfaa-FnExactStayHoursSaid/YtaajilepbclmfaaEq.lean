/- The functions of the program come to the typed ones. No condition. -/
import Derived.Test.YtaajilepbclmfaaEc
namespace Go.Proofs.Ytaajilepbclmfaa
open Go Go.Proofs Go.Proofs.Ytaajilepbclmfaa.Am
set_option linter.unusedVariables false
set_option linter.unusedSimpArgs false
set_option linter.defProp false
set_option maxRecDepth 100000
theorem e_laws_szHandS (n : Nat) {R1} {a : List Hand} (left : Int) [H1 : EncL cHand R1 a] : CP T (n + 1) 4 [.imm 5 R1, .i .i64 left] = (laws_szHandS a left).map fun r => .i .i64 r := by
  obtain ⟨rfl⟩ := H1
  rw [CP_eq]
  simp -dsimp +contextual only [↓evA, evB, evT, tys, encs, Nat.reduceAdd, Nat.reduceMul, Nat.reduceBEq, Nat.reduceLeDiff, Nat.reduceLT, Try.func4, Try.f4, a4, TP, orc_p, orc_l]
  try simp only [laws_szHandS, evT, encs, c_js, r_map_some, e_need_t]
  all_goals rfl
theorem e_laws_toHand (n : Nat) (axThing : Int) (axHolder : Int) (axWho : Int) (axAt : Int) (axSeal : Int) : CP T (n + 1) 14 [.agg [.i .i64 axThing, .i .i64 axHolder, .i .i64 axWho, .i .i64 axAt, .i .i64 axSeal]] = (laws_toHand (⟨axThing, axHolder, axWho, axAt, axSeal⟩ : Hand)).map fun r => .agg (cHand r) := by
  rw [CP_eq]
  simp -dsimp +contextual only [↓evA, evB, evT, tys, encs, Nat.reduceAdd, Nat.reduceMul, Nat.reduceBEq, Nat.reduceLeDiff, Nat.reduceLT, Try.func14, Try.f14, a14, TP, orc_p, orc_l]
  try simp only [laws_toHand, evT, encs, c_js, r_map_some, e_need_t]
  all_goals rfl
theorem e_laws_toHandS_l3 (n : Nat) {R1} {a : List Hand} {R2} {out : List Hand} (i : Int) [H1 : EncL cHand R1 a] [H2 : EncL cHand R2 out] : LP T (n + 2) 6 3 (frm [(0, .imm 5 R1), (3, .sl 0), (4, .i .i64 i)]) [some (Ent.lst 5 R2)] =
    (run (laws_toHandS_l3 a) (out, i)).map (fun (zr : (List Hand)) => (XE.exit 0, frm [(3, .sl 0)], [some (Ent.lst 5 (zr.map cHand))])) := by
  obtain ⟨rfl⟩ := H1
  obtain ⟨rfl⟩ := H2
  rw [LP_eq]
  simp -dsimp only [↓evA, evB, lpG_eq, Try.func6, Try.f6, a6, TP, Nat.reduceAdd, Nat.reduceMul, Nat.reduceBEq, Nat.reduceLeDiff, Nat.reduceLT]
  refine run_map (fun (zs : (List Hand) × Int) => (frm [(0, .imm 5 (a.map cHand)), (3, .sl 0), (4, .i .i64 zs.2)], [some (Ent.lst 5 (zs.1.map cHand))])) (fun (zr : (List Hand)) => (XE.exit 0, frm [(3, .sl 0)], [some (Ent.lst 5 (zr.map cHand))])) ?_ (out, i)
  rintro ⟨out, i⟩
  simp -dsimp +contextual only [↓evA, evB, evT, tys, encs, Nat.reduceAdd, Nat.reduceMul, Nat.reduceBEq, Nat.reduceLeDiff, Nat.reduceLT, TP, orc_p, orc_l, e_laws_toHand]
  try simp only [laws_toHandS_l3, evT, encs, c_js, r_map_some, e_need_t]
  all_goals rfl
theorem e_laws_toHandS (n : Nat) {R1} {a : List Hand} [H1 : EncL cHand R1 a] : CP T (n + 3) 6 [.imm 5 R1] = (laws_toHandS a).map fun r => .own 5 (r.map cHand) := by
  obtain ⟨rfl⟩ := H1
  rw [CP_eq]
  simp -dsimp +contextual only [↓evA, evB, evT, tys, encs, Nat.reduceAdd, Nat.reduceMul, Nat.reduceBEq, Nat.reduceLeDiff, Nat.reduceLT, Try.func6, Try.f6, a6, TP, orc_p, orc_l, e_laws_toHandS_l3]
  try simp only [laws_toHandS, evT, encs, c_js, r_map_some, e_need_t]
  all_goals rfl
theorem e_spec_HandsOf_l3 (n : Nat) {R1} {l : List Hand} (thing : Int) {R2} {out : List Hand} (i : Int) [H1 : EncL cHand R1 l] [H2 : EncL cHand R2 out] : LP T (n + 1) 9 3 (frm [(0, .imm 5 R1), (1, .i .i64 thing), (5, .sl 0), (6, .i .i64 i)]) [some (Ent.lst 5 R2)] =
    (run (spec_HandsOf_l3 l thing) (out, i)).map (fun (zr : (List Hand)) => (XE.exit 0, frm [(5, .sl 0)], [some (Ent.lst 5 (zr.map cHand))])) := by
  obtain ⟨rfl⟩ := H1
  obtain ⟨rfl⟩ := H2
  rw [LP_eq]
  simp -dsimp only [↓evA, evB, lpG_eq, Try.func9, Try.f9, a9, TP, Nat.reduceAdd, Nat.reduceMul, Nat.reduceBEq, Nat.reduceLeDiff, Nat.reduceLT]
  refine run_map (fun (zs : (List Hand) × Int) => (frm [(0, .imm 5 (l.map cHand)), (1, .i .i64 thing), (5, .sl 0), (6, .i .i64 zs.2)], [some (Ent.lst 5 (zs.1.map cHand))])) (fun (zr : (List Hand)) => (XE.exit 0, frm [(5, .sl 0)], [some (Ent.lst 5 (zr.map cHand))])) ?_ (out, i)
  rintro ⟨out, i⟩
  simp -dsimp +contextual only [↓evA, evB, evT, tys, encs, Nat.reduceAdd, Nat.reduceMul, Nat.reduceBEq, Nat.reduceLeDiff, Nat.reduceLT, TP, orc_p, orc_l]
  try simp only [spec_HandsOf_l3, evT, encs, c_js, r_map_some, e_need_t]
  all_goals rfl
theorem e_spec_HandsOf (n : Nat) {R1} {l : List Hand} (thing : Int) [H1 : EncL cHand R1 l] : CP T (n + 2) 9 [.imm 5 R1, .i .i64 thing] = (spec_HandsOf l thing).map fun r => .own 5 (r.map cHand) := by
  obtain ⟨rfl⟩ := H1
  rw [CP_eq]
  simp -dsimp +contextual only [↓evA, evB, evT, tys, encs, Nat.reduceAdd, Nat.reduceMul, Nat.reduceBEq, Nat.reduceLeDiff, Nat.reduceLT, Try.func9, Try.f9, a9, TP, orc_p, orc_l, e_spec_HandsOf_l3]
  try simp only [spec_HandsOf, evT, encs, c_js, r_map_some, e_need_t]
  all_goals rfl
theorem e_spec_l1In (n : Nat) (x : Int) (least : Int) (most : Int) : CP T (n + 1) 11 [.i .i64 x, .i .i64 least, .i .i64 most] = (spec_l1In x least most).map fun r => .b r := by
  rw [CP_eq]
  simp -dsimp +contextual only [↓evA, evB, evT, tys, encs, Nat.reduceAdd, Nat.reduceMul, Nat.reduceBEq, Nat.reduceLeDiff, Nat.reduceLT, Try.func11, Try.f11, a11, TP, orc_p, orc_l]
  try simp only [spec_l1In, evT, encs, c_js, r_map_some, e_need_t]
  all_goals rfl
theorem e_spec_Mod (n : Nat) (vn : Int) (m : Int) : CP T (n + 2) 25 [.i .i64 vn, .i .i64 m] = (spec_Mod vn m).map fun r => .i .i64 r := by
  rw [CP_eq]
  simp -dsimp +contextual only [↓evA, evB, evT, tys, encs, Nat.reduceAdd, Nat.reduceMul, Nat.reduceBEq, Nat.reduceLeDiff, Nat.reduceLT, Try.func25, Try.f25, a25, TP, orc_p, orc_l, e_spec_l1In]
  try simp only [spec_Mod, evT, encs, c_js, r_map_some, e_need_t]
  all_goals rfl
theorem e_spec_Hash_l3 (n : Nat) {R1} {l : List Int} (d : Int) (i : Int) [H1 : EncL c_i64 R1 l] : LP T (n + 3) 23 3 (frm [(0, .imm 1 R1), (3, .i .i64 d), (4, .i .i64 i)]) [] =
    (run (spec_Hash_l3 l) (d, i)).map (fun (zr : Int) => (XE.exit 0, frm [(3, .i .i64 zr)], [])) := by
  obtain ⟨rfl⟩ := H1
  rw [LP_eq]
  simp -dsimp only [↓evA, evB, lpG_eq, Try.func23, Try.f23, a23, TP, Nat.reduceAdd, Nat.reduceMul, Nat.reduceBEq, Nat.reduceLeDiff, Nat.reduceLT]
  refine run_map (fun (zs : Int × Int) => (frm [(0, .imm 1 (l.map c_i64)), (3, .i .i64 zs.1), (4, .i .i64 zs.2)], [])) (fun (zr : Int) => (XE.exit 0, frm [(3, .i .i64 zr)], [])) ?_ (d, i)
  rintro ⟨d, i⟩
  simp -dsimp +contextual only [↓evA, evB, evT, tys, encs, Nat.reduceAdd, Nat.reduceMul, Nat.reduceBEq, Nat.reduceLeDiff, Nat.reduceLT, TP, orc_p, orc_l, e_spec_Mod]
  try simp only [spec_Hash_l3, evT, encs, c_js, r_map_some, e_need_t]
  all_goals rfl
theorem e_spec_Hash (n : Nat) {R1} {l : List Int} [H1 : EncL c_i64 R1 l] : CP T (n + 4) 23 [.imm 1 R1] = (spec_Hash l).map fun r => .i .i64 r := by
  obtain ⟨rfl⟩ := H1
  rw [CP_eq]
  simp -dsimp +contextual only [↓evA, evB, evT, tys, encs, Nat.reduceAdd, Nat.reduceMul, Nat.reduceBEq, Nat.reduceLeDiff, Nat.reduceLT, Try.func23, Try.f23, a23, TP, orc_p, orc_l, e_spec_Hash_l3]
  try simp only [spec_Hash, evT, encs, c_js, r_map_some, e_need_t]
  all_goals rfl
theorem e_spec_HandSeal (n : Nat) (before : Int) (xxThing : Int) (xxHolder : Int) (xxWho : Int) (xxAt : Int) (xxSeal : Int) : CP T (n + 5) 19 [.i .i64 before, .agg [.i .i64 xxThing, .i .i64 xxHolder, .i .i64 xxWho, .i .i64 xxAt, .i .i64 xxSeal]] = (spec_HandSeal before (⟨xxThing, xxHolder, xxWho, xxAt, xxSeal⟩ : Hand)).map fun r => .i .i64 r := by
  rw [CP_eq]
  simp -dsimp +contextual only [↓evA, evB, evT, tys, encs, Nat.reduceAdd, Nat.reduceMul, Nat.reduceBEq, Nat.reduceLeDiff, Nat.reduceLT, Try.func19, Try.f19, a19, TP, orc_p, orc_l, e_spec_Hash]
  try simp only [spec_HandSeal, evT, encs, c_js, r_map_some, e_need_t]
  all_goals rfl
theorem e_spec_l16Last_l3 (n : Nat) {R1} {l : List Hand} (thing : Int) (before : Int) (k : Int) (i : Int) [H1 : EncL cHand R1 l] : LP T (n + 1) 20 3 (frm [(0, .imm 5 R1), (1, .i .i64 thing), (2, .i .i64 before), (7, .i .i64 k), (8, .i .i64 i)]) [] =
    (run (spec_l16Last_l3 l thing before) (k, i)).map (fun (zr : Int) => (XE.exit 0, frm [(7, .i .i64 zr)], [])) := by
  obtain ⟨rfl⟩ := H1
  rw [LP_eq]
  simp -dsimp only [↓evA, evB, lpG_eq, Try.func20, Try.f20, a20, TP, Nat.reduceAdd, Nat.reduceMul, Nat.reduceBEq, Nat.reduceLeDiff, Nat.reduceLT]
  refine run_map (fun (zs : Int × Int) => (frm [(0, .imm 5 (l.map cHand)), (1, .i .i64 thing), (2, .i .i64 before), (7, .i .i64 zs.1), (8, .i .i64 zs.2)], [])) (fun (zr : Int) => (XE.exit 0, frm [(7, .i .i64 zr)], [])) ?_ (k, i)
  rintro ⟨k, i⟩
  simp -dsimp +contextual only [↓evA, evB, evT, tys, encs, Nat.reduceAdd, Nat.reduceMul, Nat.reduceBEq, Nat.reduceLeDiff, Nat.reduceLT, TP, orc_p, orc_l]
  try simp only [spec_l16Last_l3, evT, encs, c_js, r_map_some, e_need_t]
  all_goals rfl
theorem e_spec_l16Last (n : Nat) {R1} {l : List Hand} (thing : Int) (before : Int) [H1 : EncL cHand R1 l] : CP T (n + 2) 20 [.imm 5 R1, .i .i64 thing, .i .i64 before] = (spec_l16Last l thing before).map fun r => .i .i64 r := by
  obtain ⟨rfl⟩ := H1
  rw [CP_eq]
  simp -dsimp +contextual only [↓evA, evB, evT, tys, encs, Nat.reduceAdd, Nat.reduceMul, Nat.reduceBEq, Nat.reduceLeDiff, Nat.reduceLT, Try.func20, Try.f20, a20, TP, orc_p, orc_l, e_spec_l16Last_l3]
  try simp only [spec_l16Last, evT, encs, c_js, r_map_some, e_need_t]
  all_goals rfl
theorem e_spec_IsChain_l3 (n : Nat) {R1} {l : List Hand} (t3 : Int) (t4 : Int) [H1 : EncL cHand R1 l] : LP T (n + 6) 10 3 (frm [(0, .imm 5 R1), (3, .i .i64 t3), (4, .i .i64 t4)]) [] =
    lmap (run (spec_IsChain_l3 l) (t3, t4)) (fun (zr : Bool) => (XE.ret, frm [(2, .b zr)], [])) (fun (zr : Unit) => (XE.exit 0, frm [(0, .imm 5 (l.map cHand))], [])) := by
  obtain ⟨rfl⟩ := H1
  rw [LP_eq]
  simp -dsimp only [↓evA, evB, lpG_eq, Try.func10, Try.f10, a10, TP, Nat.reduceAdd, Nat.reduceMul, Nat.reduceBEq, Nat.reduceLeDiff, Nat.reduceLT]
  refine run_map (fun (zs : Int × Int) => (frm [(0, .imm 5 (l.map cHand)), (3, .i .i64 zs.1), (4, .i .i64 zs.2)], [])) (evO (fun (zr : Bool) => (XE.ret, frm [(2, .b zr)], [])) (fun (zr : Unit) => (XE.exit 0, frm [(0, .imm 5 (l.map cHand))], []))) ?_ (t3, t4)
  rintro ⟨t3, t4⟩
  simp -dsimp +contextual only [↓evA, evB, evT, tys, encs, Nat.reduceAdd, Nat.reduceMul, Nat.reduceBEq, Nat.reduceLeDiff, Nat.reduceLT, TP, orc_p, orc_l, e_spec_HandSeal, e_spec_l1In, e_spec_l16Last]
  try simp only [spec_IsChain_l3, evT, encs, c_js, r_map_some, e_need_t]
  all_goals rfl
theorem e_spec_IsChain (n : Nat) {R1} {l : List Hand} [H1 : EncL cHand R1 l] : CP T (n + 7) 10 [.imm 5 R1] = (spec_IsChain l).map fun r => .b r := by
  obtain ⟨rfl⟩ := H1
  rw [CP_eq]
  simp -dsimp +contextual only [↓evA, evB, evT, tys, encs, Nat.reduceAdd, Nat.reduceMul, Nat.reduceBEq, Nat.reduceLeDiff, Nat.reduceLT, Try.func10, Try.f10, a10, TP, orc_p, orc_l, e_spec_IsChain_l3]
  try simp only [spec_IsChain, evT, encs, c_js, r_map_some, e_need_t]
  all_goals rfl
theorem e_spec_Min (n : Nat) (a : Int) (b : Int) : CP T (n + 1) 12 [.i .i64 a, .i .i64 b] = (spec_Min a b).map fun r => .i .i64 r := by
  rw [CP_eq]
  simp -dsimp +contextual only [↓evA, evB, evT, tys, encs, Nat.reduceAdd, Nat.reduceMul, Nat.reduceBEq, Nat.reduceLeDiff, Nat.reduceLT, Try.func12, Try.f12, a12, TP, orc_p, orc_l]
  try simp only [spec_Min, evT, encs, c_js, r_map_some, e_need_t]
  all_goals rfl
theorem e_spec_Max (n : Nat) (a : Int) (b : Int) : CP T (n + 1) 13 [.i .i64 a, .i .i64 b] = (spec_Max a b).map fun r => .i .i64 r := by
  rw [CP_eq]
  simp -dsimp +contextual only [↓evA, evB, evT, tys, encs, Nat.reduceAdd, Nat.reduceMul, Nat.reduceBEq, Nat.reduceLeDiff, Nat.reduceLT, Try.func13, Try.f13, a13, TP, orc_p, orc_l]
  try simp only [spec_Max, evT, encs, c_js, r_map_some, e_need_t]
  all_goals rfl
theorem e_spec_StayHours_l4 (n : Nat) {R1} {l : List Hand} (now : Int) (vn : Int) {R2} {vh : List Hand} (i : Int) [H1 : EncL cHand R1 l] [H2 : EncL cHand R2 vh] : LP T (n + 8) 5 4 (frm [(0, .imm 5 R1), (2, .i .i64 now), (7, .i .i64 vn), (8, .sl 0), (9, .i .i64 i)]) [some (Ent.lst 5 R2)] =
    (run (spec_StayHours_l4 l now vh) (vn, i)).map (fun (zr : Int) => (XE.exit 0, frm [(7, .i .i64 zr)], [])) := by
  obtain ⟨rfl⟩ := H1
  obtain ⟨rfl⟩ := H2
  rw [LP_eq]
  simp -dsimp only [↓evA, evB, lpG_eq, Try.func5, Try.f5, a5, TP, Nat.reduceAdd, Nat.reduceMul, Nat.reduceBEq, Nat.reduceLeDiff, Nat.reduceLT]
  refine run_map (fun (zs : Int × Int) => (frm [(0, .imm 5 (l.map cHand)), (2, .i .i64 now), (7, .i .i64 zs.1), (8, .sl 0), (9, .i .i64 zs.2)], [some (Ent.lst 5 (vh.map cHand))])) (fun (zr : Int) => (XE.exit 0, frm [(7, .i .i64 zr)], [])) ?_ (vn, i)
  rintro ⟨vn, i⟩
  simp -dsimp +contextual only [↓evA, evB, evT, tys, encs, Nat.reduceAdd, Nat.reduceMul, Nat.reduceBEq, Nat.reduceLeDiff, Nat.reduceLT, TP, orc_p, orc_l, e_spec_IsChain, e_spec_l1In, e_spec_Min, e_spec_Max]
  try simp only [spec_StayHours_l4, evT, encs, c_js, r_map_some, e_need_t]
  all_goals rfl
theorem e_spec_StayHours (n : Nat) {R1} {l : List Hand} (thing : Int) (now : Int) [H1 : EncL cHand R1 l] : CP T (n + 9) 5 [.imm 5 R1, .i .i64 thing, .i .i64 now] = (spec_StayHours l thing now).map fun r => .i .i64 r := by
  obtain ⟨rfl⟩ := H1
  rw [CP_eq]
  simp -dsimp +contextual only [↓evA, evB, evT, tys, encs, Nat.reduceAdd, Nat.reduceMul, Nat.reduceBEq, Nat.reduceLeDiff, Nat.reduceLT, Try.func5, Try.f5, a5, TP, orc_p, orc_l, e_spec_HandsOf, e_spec_StayHours_l4]
  try simp only [spec_StayHours, evT, encs, c_js, r_map_some, e_need_t]
  all_goals rfl
theorem e_impl_InRange (n : Nat) (vn : Int) (low : Int) (high : Int) : CP T (n + 1) 16 [.i .i64 vn, .i .i64 low, .i .i64 high] = (impl_InRange vn low high).map fun r => .b r := by
  rw [CP_eq]
  simp -dsimp +contextual only [↓evA, evB, evT, tys, encs, Nat.reduceAdd, Nat.reduceMul, Nat.reduceBEq, Nat.reduceLeDiff, Nat.reduceLT, Try.func16, Try.f16, a16, TP, orc_p, orc_l]
  try simp only [impl_InRange, evT, encs, c_js, r_map_some, e_need_t]
  all_goals rfl
theorem e_impl_Mod (n : Nat) (p : Int) (q : Int) : CP T (n + 2) 27 [.i .i64 p, .i .i64 q] = (impl_Mod p q).map fun r => .i .i64 r := by
  rw [CP_eq]
  simp -dsimp +contextual only [↓evA, evB, evT, tys, encs, Nat.reduceAdd, Nat.reduceMul, Nat.reduceBEq, Nat.reduceLeDiff, Nat.reduceLT, Try.func27, Try.f27, a27, TP, orc_p, orc_l, e_impl_InRange]
  try simp only [impl_Mod, evT, encs, c_js, r_map_some, e_need_t]
  all_goals rfl
theorem e_impl_fold (n : Nat) (acc : Int) (v : Int) : CP T (n + 3) 26 [.i .i64 acc, .i .i64 v] = (impl_fold acc v).map fun r => .i .i64 r := by
  rw [CP_eq]
  simp -dsimp +contextual only [↓evA, evB, evT, tys, encs, Nat.reduceAdd, Nat.reduceMul, Nat.reduceBEq, Nat.reduceLeDiff, Nat.reduceLT, Try.func26, Try.f26, a26, TP, orc_p, orc_l, e_impl_Mod]
  try simp only [impl_fold, evT, encs, c_js, r_map_some, e_need_t]
  all_goals rfl
theorem e_impl_Hash_l3 (n : Nat) (acc : Int) {R1} {t6 : List Int} (t7 : Int) (t8 : Int) [H1 : EncL c_i64 R1 t6] : LP T (n + 4) 24 3 (frm [(3, .i .i64 acc), (6, .imm 1 R1), (7, .i .i64 t7), (8, .i .i64 t8)]) [] =
    (run (impl_Hash_l3 t6 t7) (acc, t8)).map (fun (zr : Int) => (XE.exit 0, frm [(3, .i .i64 zr)], [])) := by
  obtain ⟨rfl⟩ := H1
  rw [LP_eq]
  simp -dsimp only [↓evA, evB, lpG_eq, Try.func24, Try.f24, a24, TP, Nat.reduceAdd, Nat.reduceMul, Nat.reduceBEq, Nat.reduceLeDiff, Nat.reduceLT]
  refine run_map (fun (zs : Int × Int) => (frm [(3, .i .i64 zs.1), (6, .imm 1 (t6.map c_i64)), (7, .i .i64 t7), (8, .i .i64 zs.2)], [])) (fun (zr : Int) => (XE.exit 0, frm [(3, .i .i64 zr)], [])) ?_ (acc, t8)
  rintro ⟨acc, t8⟩
  simp -dsimp +contextual only [↓evA, evB, evT, tys, encs, Nat.reduceAdd, Nat.reduceMul, Nat.reduceBEq, Nat.reduceLeDiff, Nat.reduceLT, TP, orc_p, orc_l, e_impl_fold]
  try simp only [impl_Hash_l3, evT, encs, c_js, r_map_some, e_need_t]
  all_goals rfl
theorem e_impl_Hash (n : Nat) {R1} {values : List Int} [H1 : EncL c_i64 R1 values] : CP T (n + 5) 24 [.imm 1 R1] = (impl_Hash values).map fun r => .i .i64 r := by
  obtain ⟨rfl⟩ := H1
  rw [CP_eq]
  simp -dsimp +contextual only [↓evA, evB, evT, tys, encs, Nat.reduceAdd, Nat.reduceMul, Nat.reduceBEq, Nat.reduceLeDiff, Nat.reduceLT, Try.func24, Try.f24, a24, TP, orc_p, orc_l, e_impl_Hash_l3]
  try simp only [impl_Hash, evT, encs, c_js, r_map_some, e_need_t]
  all_goals rfl
theorem e_impl_HandSeal (n : Nat) (before : Int) (xxThing : Int) (xxHolder : Int) (xxWho : Int) (xxAt : Int) (xxSeal : Int) : CP T (n + 6) 21 [.i .i64 before, .agg [.i .i64 xxThing, .i .i64 xxHolder, .i .i64 xxWho, .i .i64 xxAt, .i .i64 xxSeal]] = (impl_HandSeal before (⟨xxThing, xxHolder, xxWho, xxAt, xxSeal⟩ : Hand)).map fun r => .i .i64 r := by
  rw [CP_eq]
  simp -dsimp +contextual only [↓evA, evB, evT, tys, encs, Nat.reduceAdd, Nat.reduceMul, Nat.reduceBEq, Nat.reduceLeDiff, Nat.reduceLT, Try.func21, Try.f21, a21, TP, orc_p, orc_l, e_impl_Hash]
  try simp only [impl_HandSeal, evT, encs, c_js, r_map_some, e_need_t]
  all_goals rfl
theorem e_impl_lastHand_l2 (n : Nat) {R1} {l : List Hand} (thing : Int) (i : Int) [H1 : EncL cHand R1 l] : LP T (n + 1) 22 2 (frm [(0, .imm 5 R1), (1, .i .i64 thing), (5, .i .i64 i)]) [] =
    lmap (run (impl_lastHand_l2 l thing) i) (fun (zr : Int) => (XE.ret, frm [(4, .i .i64 zr)], [])) (fun (zr : Unit) => (XE.exit 0, frm [], [])) := by
  obtain ⟨rfl⟩ := H1
  rw [LP_eq]
  simp -dsimp only [↓evA, evB, lpG_eq, Try.func22, Try.f22, a22, TP, Nat.reduceAdd, Nat.reduceMul, Nat.reduceBEq, Nat.reduceLeDiff, Nat.reduceLT]
  refine run_map (fun (zs : Int) => (frm [(0, .imm 5 (l.map cHand)), (1, .i .i64 thing), (5, .i .i64 zs)], [])) (evO (fun (zr : Int) => (XE.ret, frm [(4, .i .i64 zr)], [])) (fun (zr : Unit) => (XE.exit 0, frm [], []))) ?_ i
  intro i
  simp -dsimp +contextual only [↓evA, evB, evT, tys, encs, Nat.reduceAdd, Nat.reduceMul, Nat.reduceBEq, Nat.reduceLeDiff, Nat.reduceLT, TP, orc_p, orc_l]
  try simp only [impl_lastHand_l2, evT, encs, c_js, r_map_some, e_need_t]
  all_goals rfl
theorem e_impl_lastHand (n : Nat) {R1} {l : List Hand} (thing : Int) [H1 : EncL cHand R1 l] : CP T (n + 2) 22 [.imm 5 R1, .i .i64 thing] = (impl_lastHand l thing).map fun r => .i .i64 r := by
  obtain ⟨rfl⟩ := H1
  rw [CP_eq]
  simp -dsimp +contextual only [↓evA, evB, evT, tys, encs, Nat.reduceAdd, Nat.reduceMul, Nat.reduceBEq, Nat.reduceLeDiff, Nat.reduceLT, Try.func22, Try.f22, a22, TP, orc_p, orc_l, e_impl_lastHand_l2]
  try simp only [impl_lastHand, evT, encs, c_js, r_map_some, e_need_t]
  all_goals rfl
theorem e_impl_IsChain_l5 (n : Nat) {R1} {l : List Hand} (t3 : Int) {R2} {t10 : List Hand} (t11 : Int) (t12 : Int) [H1 : EncL cHand R1 l] [H2 : EncL cHand R2 t10] : LP T (n + 7) 15 5 (frm [(0, .imm 5 R1), (3, .i .i64 t3), (10, .imm 5 R2), (11, .i .i64 t11), (12, .i .i64 t12)]) [] =
    lmap (run (impl_IsChain_l5 l t10 t11) (t3, t12)) (fun (zr : Bool) => (XE.ret, frm [(2, .b zr)], [])) (fun (zr : Unit) => (XE.exit 0, frm [], [])) := by
  obtain ⟨rfl⟩ := H1
  obtain ⟨rfl⟩ := H2
  rw [LP_eq]
  simp -dsimp only [↓evA, evB, lpG_eq, Try.func15, Try.f15, a15, TP, Nat.reduceAdd, Nat.reduceMul, Nat.reduceBEq, Nat.reduceLeDiff, Nat.reduceLT]
  refine run_map (fun (zs : Int × Int) => (frm [(0, .imm 5 (l.map cHand)), (3, .i .i64 zs.1), (10, .imm 5 (t10.map cHand)), (11, .i .i64 t11), (12, .i .i64 zs.2)], [])) (evO (fun (zr : Bool) => (XE.ret, frm [(2, .b zr)], [])) (fun (zr : Unit) => (XE.exit 0, frm [], []))) ?_ (t3, t12)
  rintro ⟨t3, t12⟩
  simp -dsimp +contextual only [↓evA, evB, evT, tys, encs, Nat.reduceAdd, Nat.reduceMul, Nat.reduceBEq, Nat.reduceLeDiff, Nat.reduceLT, TP, orc_p, orc_l, e_impl_InRange, e_impl_HandSeal, e_impl_lastHand]
  try simp only [impl_IsChain_l5, evT, encs, c_js, r_map_some, e_need_t]
  all_goals rfl
theorem e_impl_IsChain (n : Nat) {R1} {l : List Hand} [H1 : EncL cHand R1 l] : CP T (n + 8) 15 [.imm 5 R1] = (impl_IsChain l).map fun r => .b r := by
  obtain ⟨rfl⟩ := H1
  rw [CP_eq]
  simp -dsimp +contextual only [↓evA, evB, evT, tys, encs, Nat.reduceAdd, Nat.reduceMul, Nat.reduceBEq, Nat.reduceLeDiff, Nat.reduceLT, Try.func15, Try.f15, a15, TP, orc_p, orc_l, e_impl_IsChain_l5]
  try simp only [impl_IsChain, evT, encs, c_js, r_map_some, e_need_t]
  all_goals rfl
theorem e_impl_HandsOf_l3 (n : Nat) (thing : Int) {R1} {out : List Hand} {R2} {t9 : List Hand} (t10 : Int) (t11 : Int) [H1 : EncL cHand R1 out] [H2 : EncL cHand R2 t9] : LP T (n + 1) 17 3 (frm [(1, .i .i64 thing), (5, .sl 0), (9, .imm 5 R2), (10, .i .i64 t10), (11, .i .i64 t11)]) [some (Ent.lst 5 R1)] =
    (run (impl_HandsOf_l3 thing t9 t10) (out, t11)).map (fun (zr : (List Hand)) => (XE.exit 0, frm [(5, .sl 0)], [some (Ent.lst 5 (zr.map cHand))])) := by
  obtain ⟨rfl⟩ := H1
  obtain ⟨rfl⟩ := H2
  rw [LP_eq]
  simp -dsimp only [↓evA, evB, lpG_eq, Try.func17, Try.f17, a17, TP, Nat.reduceAdd, Nat.reduceMul, Nat.reduceBEq, Nat.reduceLeDiff, Nat.reduceLT]
  refine run_map (fun (zs : (List Hand) × Int) => (frm [(1, .i .i64 thing), (5, .sl 0), (9, .imm 5 (t9.map cHand)), (10, .i .i64 t10), (11, .i .i64 zs.2)], [some (Ent.lst 5 (zs.1.map cHand))])) (fun (zr : (List Hand)) => (XE.exit 0, frm [(5, .sl 0)], [some (Ent.lst 5 (zr.map cHand))])) ?_ (out, t11)
  rintro ⟨out, t11⟩
  simp -dsimp +contextual only [↓evA, evB, evT, tys, encs, Nat.reduceAdd, Nat.reduceMul, Nat.reduceBEq, Nat.reduceLeDiff, Nat.reduceLT, TP, orc_p, orc_l]
  try simp only [impl_HandsOf_l3, evT, encs, c_js, r_map_some, e_need_t]
  all_goals rfl
theorem e_impl_HandsOf (n : Nat) {R1} {l : List Hand} (thing : Int) [H1 : EncL cHand R1 l] : CP T (n + 2) 17 [.imm 5 R1, .i .i64 thing] = (impl_HandsOf l thing).map fun r => .own 5 (r.map cHand) := by
  obtain ⟨rfl⟩ := H1
  rw [CP_eq]
  simp -dsimp +contextual only [↓evA, evB, evT, tys, encs, Nat.reduceAdd, Nat.reduceMul, Nat.reduceBEq, Nat.reduceLeDiff, Nat.reduceLT, Try.func17, Try.f17, a17, TP, orc_p, orc_l, e_impl_HandsOf_l3]
  try simp only [impl_HandsOf, evT, encs, c_js, r_map_some, e_need_t]
  all_goals rfl
theorem e_impl_StayHours_l6 (n : Nat) (now : Int) (vn : Int) {R1} {hands : List Hand} (t25 : Int) (t26 : Int) [H1 : EncL cHand R1 hands] : LP T (n + 1) 7 6 (frm [(2, .i .i64 now), (7, .i .i64 vn), (8, .sl 0), (24, .sl 0), (25, .i .i64 t25), (26, .i .i64 t26)]) [some (Ent.lst 5 R1)] =
    (run (impl_StayHours_l6 now hands t25) (vn, t26)).map (fun (zr : Int) => (XE.exit 0, frm [(7, .i .i64 zr)], [])) := by
  obtain ⟨rfl⟩ := H1
  rw [LP_eq]
  simp -dsimp only [↓evA, evB, lpG_eq, Try.func7, Try.f7, a7, TP, Nat.reduceAdd, Nat.reduceMul, Nat.reduceBEq, Nat.reduceLeDiff, Nat.reduceLT]
  refine run_map (fun (zs : Int × Int) => (frm [(2, .i .i64 now), (7, .i .i64 zs.1), (8, .sl 0), (24, .sl 0), (25, .i .i64 t25), (26, .i .i64 zs.2)], [some (Ent.lst 5 (hands.map cHand))])) (fun (zr : Int) => (XE.exit 0, frm [(7, .i .i64 zr)], [])) ?_ (vn, t26)
  rintro ⟨vn, t26⟩
  simp -dsimp +contextual only [↓evA, evB, evT, tys, encs, Nat.reduceAdd, Nat.reduceMul, Nat.reduceBEq, Nat.reduceLeDiff, Nat.reduceLT, TP, orc_p, orc_l]
  try simp only [impl_StayHours_l6, evT, encs, c_js, r_map_some, e_need_t]
  all_goals rfl
theorem e_impl_StayHours (n : Nat) {R1} {l : List Hand} (thing : Int) (now : Int) [H1 : EncL cHand R1 l] : CP T (n + 9) 7 [.imm 5 R1, .i .i64 thing, .i .i64 now] = (impl_StayHours l thing now).map fun r => .i .i64 r := by
  obtain ⟨rfl⟩ := H1
  rw [CP_eq]
  simp -dsimp +contextual only [↓evA, evB, evT, tys, encs, Nat.reduceAdd, Nat.reduceMul, Nat.reduceBEq, Nat.reduceLeDiff, Nat.reduceLT, Try.func7, Try.f7, a7, TP, orc_p, orc_l, e_impl_IsChain, e_impl_InRange, e_impl_HandsOf, e_impl_StayHours_l6]
  try simp only [impl_StayHours, evT, encs, c_js, r_map_some, e_need_t]
  all_goals rfl
theorem e_laws_eqHand (n : Nat) (axThing : Int) (axHolder : Int) (axWho : Int) (axAt : Int) (axSeal : Int) (bxThing : Int) (bxHolder : Int) (bxWho : Int) (bxAt : Int) (bxSeal : Int) : CP T (n + 1) 18 [.agg [.i .i64 axThing, .i .i64 axHolder, .i .i64 axWho, .i .i64 axAt, .i .i64 axSeal], .agg [.i .i64 bxThing, .i .i64 bxHolder, .i .i64 bxWho, .i .i64 bxAt, .i .i64 bxSeal]] = (laws_eqHand (⟨axThing, axHolder, axWho, axAt, axSeal⟩ : Hand) (⟨bxThing, bxHolder, bxWho, bxAt, bxSeal⟩ : Hand)).map fun r => .b r := by
  rw [CP_eq]
  simp -dsimp +contextual only [↓evA, evB, evT, tys, encs, Nat.reduceAdd, Nat.reduceMul, Nat.reduceBEq, Nat.reduceLeDiff, Nat.reduceLT, Try.func18, Try.f18, a18, TP, orc_p, orc_l]
  try simp only [laws_eqHand, evT, encs, c_js, r_map_some, e_need_t]
  all_goals rfl
theorem e_laws_eqHandS_l4 (n : Nat) {R1} {a : List Hand} {R2} {b : List Hand} (i : Int) [H1 : EncL cHand R1 a] [H2 : EncL cHand R2 b] : LP T (n + 2) 8 4 (frm [(0, .imm 5 R1), (1, .imm 5 R2), (5, .i .i64 i)]) [] =
    lmap (run (laws_eqHandS_l4 a b) i) (fun (zr : Bool) => (XE.ret, frm [(4, .b zr)], [])) (fun (zr : Unit) => (XE.exit 0, frm [], [])) := by
  obtain ⟨rfl⟩ := H1
  obtain ⟨rfl⟩ := H2
  rw [LP_eq]
  simp -dsimp only [↓evA, evB, lpG_eq, Try.func8, Try.f8, a8, TP, Nat.reduceAdd, Nat.reduceMul, Nat.reduceBEq, Nat.reduceLeDiff, Nat.reduceLT]
  refine run_map (fun (zs : Int) => (frm [(0, .imm 5 (a.map cHand)), (1, .imm 5 (b.map cHand)), (5, .i .i64 zs)], [])) (evO (fun (zr : Bool) => (XE.ret, frm [(4, .b zr)], [])) (fun (zr : Unit) => (XE.exit 0, frm [], []))) ?_ i
  intro i
  simp -dsimp +contextual only [↓evA, evB, evT, tys, encs, Nat.reduceAdd, Nat.reduceMul, Nat.reduceBEq, Nat.reduceLeDiff, Nat.reduceLT, TP, orc_p, orc_l, e_laws_eqHand]
  try simp only [laws_eqHandS_l4, evT, encs, c_js, r_map_some, e_need_t]
  all_goals rfl
theorem e_laws_eqHandS (n : Nat) {R1} {a : List Hand} {R2} {b : List Hand} [H1 : EncL cHand R1 a] [H2 : EncL cHand R2 b] : CP T (n + 3) 8 [.imm 5 R1, .imm 5 R2] = (laws_eqHandS a b).map fun r => .b r := by
  obtain ⟨rfl⟩ := H1
  obtain ⟨rfl⟩ := H2
  rw [CP_eq]
  simp -dsimp +contextual only [↓evA, evB, evT, tys, encs, Nat.reduceAdd, Nat.reduceMul, Nat.reduceBEq, Nat.reduceLeDiff, Nat.reduceLT, Try.func8, Try.f8, a8, TP, orc_p, orc_l, e_laws_eqHandS_l4]
  try simp only [laws_eqHandS, evT, encs, c_js, r_map_some, e_need_t]
  all_goals rfl
theorem e_laws_FnExactStayHours (n : Nat) {R1} {aL : List Hand} (aThing : Int) (aNow : Int) [H1 : EncL cHand R1 aL] : CP T (n + 10) 3 [.imm 5 R1, .i .i64 aThing, .i .i64 aNow] = (laws_FnExactStayHours aL aThing aNow).map fun r => .b r := by
  obtain ⟨rfl⟩ := H1
  rw [CP_eq]
  simp -dsimp +contextual only [↓evA, evB, evT, tys, encs, Nat.reduceAdd, Nat.reduceMul, Nat.reduceBEq, Nat.reduceLeDiff, Nat.reduceLT, Try.func3, Try.f3, a3, TP, orc_p, orc_l, e_laws_szHandS, e_laws_toHandS, e_spec_StayHours, e_impl_StayHours, e_laws_eqHandS]
  try simp only [laws_FnExactStayHours, evT, encs, c_js, r_map_some, e_need_t]
  all_goals rfl
end Go.Proofs.Ytaajilepbclmfaa
